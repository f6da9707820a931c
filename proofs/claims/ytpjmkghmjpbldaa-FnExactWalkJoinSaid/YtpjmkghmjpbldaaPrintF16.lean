-- Made by this session's own program (wip/patch_print.py, over the kit's print). Lean checks it.
import Derived.Test.YtpjmkghmjpbldaaPrint0
import Derived.Test.YtpjmkghmjpbldaaPrintB
import Derived.Test.YtpjmkghmjpbldaaPrintF21
import Derived.Test.YtpjmkghmjpbldaaPrintF23
import Derived.Test.YtpjmkghmjpbldaaPrintF33
import Derived.Test.YtpjmkghmjpbldaaPrintF53
import Derived.Test.YtpjmkghmjpbldaaPrintF54
namespace Go.Proofs.Ytpjmkghmjpbldaa.Print
open Go.RowKit Go.Proofs.YtpjmkghmjpbldaaW.PrintWords Go.Proofs.YtpjmkghmjpbldaaW.PrintLast Go.Proofs.YtpjmkghmjpbldaaW.PrintMore Go.Proofs.YtpjmkghmjpbldaaX
attribute [local go_sem] max2_int min2_int max_two min_two max_three min_three max_four min_four   -- for this text's walks alone
set_option linter.unusedVariables false
set_option linter.unusedSimpArgs false

abbrev rD16 := @Kd.R_drew
abbrev rR16 := @Kd.R_reads'
/-! ### laws_FnExactWalkJoin: function 16 -/
mutual
def laws_FnExactWalkJoin.j0 : Nat → List Int → List Int → List Int → Bool → List Int → List Int → List Int → Bool → Bool → Int → List (S101) → Int → List (S37) → Option (Bool)
  | 0, _, _, _, _, _, _, _, _, _, _, _, _, _ => none
  | k + 1, x1, x2, x8, x9, x11, x12, x13, x14, x62, x991000, x991001, x1011000, x1011001 => if x62 = true then (some false) else ((laws_toNet.f k x991000 x991001).bind fun bt1022 => ((laws_eqNet.f k x1011000 x1011001 bt1022.1 bt1022.2).bind fun t1026 => (if t1026 = true then ((laws_toIntS.f k x1).bind fun t1027 => ((laws_eqIntS.f k x11 t1027).bind fun t1030 => (if t1030 = true then ((laws_toIntS.f k x2).bind fun t1031 => ((laws_eqIntS.f k x12 t1031).bind fun t1034 => (if t1034 = true then ((laws_markNet.f k x1011000 x1011001 1).bind fun bt1035 => ((laws_markIntS.f k x11 bt1035.1).bind fun bt1037 => ((laws_markIntS.f k x12 bt1037.1).bind fun bt1039 => (if bt1039.1 < 0 then (laws_FnExactWalkJoin.j1 k x1 x2 x8 x9 x13 true x991000 x991001) else ((laws_eqIntS.f k x13 x8).bind fun t1041 => (if t1041 = true then (laws_FnExactWalkJoin.j1 k x1 x2 x8 x9 x13 (x14 != x9) x991000 x991001) else (laws_FnExactWalkJoin.j1 k x1 x2 x8 x9 x13 true x991000 x991001))))))) else (some false)))) else (some false)))) else (some false))))
def laws_FnExactWalkJoin.j1 : Nat → List Int → List Int → List Int → Bool → List Int → Bool → Int → List (S101) → Option (Bool)
  | 0, _, _, _, _, _, _, _, _ => none
  | k + 1, x1, x2, x8, x9, x13, x99, x991000, x991001 => if x99 = true then (some false) else ((laws_markIntS.f k x13 1).bind fun bt1042 => ((laws_heldIntS.f k bt1042.2 1).bind fun t1044 => (if t1044 < 0 then (some false) else (if t1044 = bt1042.1 then ((laws_toNet.f k x991000 x991001).bind fun bt1045 => ((laws_toIntS.f k x1).bind fun t1049 => ((laws_toIntS.f k x2).bind fun t1052 => ((impl_WalkJoin.f k bt1045.1 bt1045.2 t1049 t1052).bind fun bt1055 => ((laws_eqIntS.f k bt1055.1 x8).bind fun t1059 => (if t1059 = true then (laws_FnExactWalkJoin.j2 k bt1042.2 bt1042.1 (bt1055.2 != x9)) else (laws_FnExactWalkJoin.j2 k bt1042.2 bt1042.1 true))))))) else (some false)))))
def laws_FnExactWalkJoin.j2 : Nat → List Int → Int → Bool → Option (Bool)
  | 0, _, _, _ => none
  | k + 1, x13, x16, x129 => if x129 = true then (some false) else ((laws_heldIntS.f k x13 1).bind fun t1060 => (if t1060 < 0 then (some false) else (if t1060 = x16 then (some true) else (some false))))
end
def laws_FnExactWalkJoin.f (k : Nat) (a0_0 : Int) (l0_1 : List (S101)) (l1 : List Int) (l2 : List Int) : Option (Bool) := if (l1.length : Int) > 1048576 then (some true) else (if (l2.length : Int) > 1048576 then (some true) else ((laws_szNet.f a0_0 l0_1 1048576).bind fun t991 => (if t991 < 0 then (some true) else ((laws_toNet.f k a0_0 l0_1).bind fun bt992 => ((laws_toIntS.f k l1).bind fun t996 => ((laws_toIntS.f k l2).bind fun t999 => ((spec_WalkJoin.f k bt992.1 bt992.2 t996 t999).bind fun bt1002 => ((laws_toNet.f k a0_0 l0_1).bind fun bt1006 => ((laws_toIntS.f k l1).bind fun t1011 => ((laws_toIntS.f k l2).bind fun t1014 => ((impl_WalkJoin.f k bt1006.1 bt1006.2 t1011 t1014).bind fun bt1017 => ((laws_eqIntS.f k bt1017.1 bt1002.1).bind fun t1021 => (if t1021 = true then (laws_FnExactWalkJoin.j0 k l1 l2 bt1002.1 bt1002.2 t1011 t1014 bt1017.1 bt1017.2 (bt1017.2 != bt1002.2) a0_0 l0_1 bt1006.1 bt1006.2) else (laws_FnExactWalkJoin.j0 k l1 l2 bt1002.1 bt1002.2 t1011 t1014 bt1017.1 bt1017.2 true a0_0 l0_1 bt1006.1 bt1006.2))))))))))))))
theorem laws_FnExactWalkJoin.mono_l : ∀ k, (∀ y0 y1 y2 y3 y4 y5 y6 y7 y8 y9 y10 y11 y12, LeO (laws_FnExactWalkJoin.j0 k y0 y1 y2 y3 y4 y5 y6 y7 y8 y9 y10 y11 y12) (laws_FnExactWalkJoin.j0 (k + 1) y0 y1 y2 y3 y4 y5 y6 y7 y8 y9 y10 y11 y12)) ∧ (∀ y0 y1 y2 y3 y4 y5 y6 y7, LeO (laws_FnExactWalkJoin.j1 k y0 y1 y2 y3 y4 y5 y6 y7) (laws_FnExactWalkJoin.j1 (k + 1) y0 y1 y2 y3 y4 y5 y6 y7)) ∧ (∀ y0 y1 y2, LeO (laws_FnExactWalkJoin.j2 k y0 y1 y2) (laws_FnExactWalkJoin.j2 (k + 1) y0 y1 y2))
  | 0 => ⟨fun _ _ _ _ _ _ _ _ _ _ _ _ _ r h => by simp [laws_FnExactWalkJoin.j0] at h, fun _ _ _ _ _ _ _ _ r h => by simp [laws_FnExactWalkJoin.j1] at h, fun _ _ _ r h => by simp [laws_FnExactWalkJoin.j2] at h⟩
  | k + 1 => by
    obtain ⟨ih0, ih1, ih2⟩ := laws_FnExactWalkJoin.mono_l k
    refine ⟨?_, ?_, ?_⟩
    · intro y0 y1 y2 y3 y4 y5 y6 y7 y8 y9 y10 y11 y12
      unfold laws_FnExactWalkJoin.j0
      repeat' first | (with_reducible first | exact ih0 _ _ _ _ _ _ _ _ _ _ _ _ _ | exact ih1 _ _ _ _ _ _ _ _ | exact ih2 _ _ _ | exact impl_WalkJoin.mono _ _ _ _ _ | exact laws_eqIntS.mono _ _ _ | exact laws_eqNet.mono _ _ _ _ _ | exact laws_heldIntS.mono _ _ _ | exact laws_markIntS.mono _ _ _ | exact laws_markNet.mono _ _ _ _ | exact laws_toIntS.mono _ _ | exact laws_toNet.mono _ _ _ | exact spec_WalkJoin.mono _ _ _ _ _ | exact LeO.refl _ | exact LeO.none _ | refine LeO.ite ?_ ?_ | refine LeO.bind ?_ (fun _ => ?_)) | exact ih0 _ _ _ _ _ _ _ _ _ _ _ _ _ | exact ih1 _ _ _ _ _ _ _ _ | exact ih2 _ _ _ | exact impl_WalkJoin.mono _ _ _ _ _ | exact laws_eqIntS.mono _ _ _ | exact laws_eqNet.mono _ _ _ _ _ | exact laws_heldIntS.mono _ _ _ | exact laws_markIntS.mono _ _ _ | exact laws_markNet.mono _ _ _ _ | exact laws_toIntS.mono _ _ | exact laws_toNet.mono _ _ _ | exact spec_WalkJoin.mono _ _ _ _ _ | exact LeO.none _ | refine LeO.ite ?_ ?_ | refine LeO.bind ?_ (fun _ => ?_)
    · intro y0 y1 y2 y3 y4 y5 y6 y7
      unfold laws_FnExactWalkJoin.j1
      repeat' first | (with_reducible first | exact ih0 _ _ _ _ _ _ _ _ _ _ _ _ _ | exact ih1 _ _ _ _ _ _ _ _ | exact ih2 _ _ _ | exact impl_WalkJoin.mono _ _ _ _ _ | exact laws_eqIntS.mono _ _ _ | exact laws_eqNet.mono _ _ _ _ _ | exact laws_heldIntS.mono _ _ _ | exact laws_markIntS.mono _ _ _ | exact laws_markNet.mono _ _ _ _ | exact laws_toIntS.mono _ _ | exact laws_toNet.mono _ _ _ | exact spec_WalkJoin.mono _ _ _ _ _ | exact LeO.refl _ | exact LeO.none _ | refine LeO.ite ?_ ?_ | refine LeO.bind ?_ (fun _ => ?_)) | exact ih0 _ _ _ _ _ _ _ _ _ _ _ _ _ | exact ih1 _ _ _ _ _ _ _ _ | exact ih2 _ _ _ | exact impl_WalkJoin.mono _ _ _ _ _ | exact laws_eqIntS.mono _ _ _ | exact laws_eqNet.mono _ _ _ _ _ | exact laws_heldIntS.mono _ _ _ | exact laws_markIntS.mono _ _ _ | exact laws_markNet.mono _ _ _ _ | exact laws_toIntS.mono _ _ | exact laws_toNet.mono _ _ _ | exact spec_WalkJoin.mono _ _ _ _ _ | exact LeO.none _ | refine LeO.ite ?_ ?_ | refine LeO.bind ?_ (fun _ => ?_)
    · intro y0 y1 y2
      unfold laws_FnExactWalkJoin.j2
      repeat' first | (with_reducible first | exact ih0 _ _ _ _ _ _ _ _ _ _ _ _ _ | exact ih1 _ _ _ _ _ _ _ _ | exact ih2 _ _ _ | exact impl_WalkJoin.mono _ _ _ _ _ | exact laws_eqIntS.mono _ _ _ | exact laws_eqNet.mono _ _ _ _ _ | exact laws_heldIntS.mono _ _ _ | exact laws_markIntS.mono _ _ _ | exact laws_markNet.mono _ _ _ _ | exact laws_toIntS.mono _ _ | exact laws_toNet.mono _ _ _ | exact spec_WalkJoin.mono _ _ _ _ _ | exact LeO.refl _ | exact LeO.none _ | refine LeO.ite ?_ ?_ | refine LeO.bind ?_ (fun _ => ?_)) | exact ih0 _ _ _ _ _ _ _ _ _ _ _ _ _ | exact ih1 _ _ _ _ _ _ _ _ | exact ih2 _ _ _ | exact impl_WalkJoin.mono _ _ _ _ _ | exact laws_eqIntS.mono _ _ _ | exact laws_eqNet.mono _ _ _ _ _ | exact laws_heldIntS.mono _ _ _ | exact laws_markIntS.mono _ _ _ | exact laws_markNet.mono _ _ _ _ | exact laws_toIntS.mono _ _ | exact laws_toNet.mono _ _ _ | exact spec_WalkJoin.mono _ _ _ _ _ | exact LeO.none _ | refine LeO.ite ?_ ?_ | refine LeO.bind ?_ (fun _ => ?_)
theorem laws_FnExactWalkJoin.mono : ∀ a0 a1 a2 a3 k, LeO (laws_FnExactWalkJoin.f k a0 a1 a2 a3) (laws_FnExactWalkJoin.f (k + 1) a0 a1 a2 a3) := by
  intro a0 a1 a2 a3 k
  obtain ⟨ih0, ih1, ih2⟩ := laws_FnExactWalkJoin.mono_l k
  unfold laws_FnExactWalkJoin.f
  repeat' first | (with_reducible first | exact ih0 _ _ _ _ _ _ _ _ _ _ _ _ _ | exact ih1 _ _ _ _ _ _ _ _ | exact ih2 _ _ _ | exact impl_WalkJoin.mono _ _ _ _ _ | exact laws_eqIntS.mono _ _ _ | exact laws_eqNet.mono _ _ _ _ _ | exact laws_heldIntS.mono _ _ _ | exact laws_markIntS.mono _ _ _ | exact laws_markNet.mono _ _ _ _ | exact laws_toIntS.mono _ _ | exact laws_toNet.mono _ _ _ | exact spec_WalkJoin.mono _ _ _ _ _ | exact LeO.refl _ | exact LeO.none _ | refine LeO.ite ?_ ?_ | refine LeO.bind ?_ (fun _ => ?_)) | exact ih0 _ _ _ _ _ _ _ _ _ _ _ _ _ | exact ih1 _ _ _ _ _ _ _ _ | exact ih2 _ _ _ | exact impl_WalkJoin.mono _ _ _ _ _ | exact laws_eqIntS.mono _ _ _ | exact laws_eqNet.mono _ _ _ _ _ | exact laws_heldIntS.mono _ _ _ | exact laws_markIntS.mono _ _ _ | exact laws_markNet.mono _ _ _ _ | exact laws_toIntS.mono _ _ | exact laws_toNet.mono _ _ _ | exact spec_WalkJoin.mono _ _ _ _ _ | exact LeO.none _ | refine LeO.ite ?_ ?_ | refine LeO.bind ?_ (fun _ => ?_)
set_option maxHeartbeats 200000000 in
set_option maxRecDepth 100000 in
theorem laws_FnExactWalkJoin.calls (k : Nat) (a0_0 : Int) (A0_1 : Option Addr) (c0_1 : Nat) (l0_1 : List (S101)) (A1 : Option Addr) (c1 : Nat) (l1 : List Int) (A2 : Option Addr) (c2 : Nat) (l2 : List Int) (r : Bool) (w : World) (hr0_1 : Kd.C k101 w A0_1 l0_1.length l0_1) (hc0_1 : l0_1.length ≤ c0_1) (hr1 : Kd.C (Kd.int .i64) w A1 l1.length l1) (hc1 : l1.length ≤ c1) (hr2 : Kd.C (Kd.int .i64) w A2 l2.length l2) (hc2 : l2.length ≤ c2) (h : laws_FnExactWalkJoin.f k a0_0 l0_1 l1 l2 = some r) :
    Calls Try.prog 16 #[.agg #[.int .i64 a0_0, .slice A0_1 l0_1.length c0_1], .slice A1 l1.length c1, .slice A2 l2.length c2] w fun e w' => e = .returned (.bool r) ∧ Below w.heap.size w w' := by
  have hu24 := Try.underlying24
  have hu29 := Try.underlying29
  have HR0_1 := Aside0.mk hr0_1
  have HC0_1 := Aside0.mk hc0_1
  clear hr0_1 hc0_1
  have HR1 := Aside0.mk hr1
  have HC1 := Aside0.mk hc1
  clear hr1 hc1
  have HR2 := Aside0.mk hr2
  have HC2 := Aside0.mk hc2
  clear hr2 hc2
  have HB := Aside0.mk (Below.refl w.heap.size w)
  have H : (if (l1.length : Int) > 1048576 then (some true) else (if (l2.length : Int) > 1048576 then (some true) else ((laws_szNet.f a0_0 l0_1 1048576).bind fun t991 => (if t991 < 0 then (some true) else ((laws_toNet.f k a0_0 l0_1).bind fun bt992 => ((laws_toIntS.f k l1).bind fun t996 => ((laws_toIntS.f k l2).bind fun t999 => ((spec_WalkJoin.f k bt992.1 bt992.2 t996 t999).bind fun bt1002 => ((laws_toNet.f k a0_0 l0_1).bind fun bt1006 => ((laws_toIntS.f k l1).bind fun t1011 => ((laws_toIntS.f k l2).bind fun t1014 => ((impl_WalkJoin.f k bt1006.1 bt1006.2 t1011 t1014).bind fun bt1017 => ((laws_eqIntS.f k bt1017.1 bt1002.1).bind fun t1021 => (if t1021 = true then (laws_FnExactWalkJoin.j0 k l1 l2 bt1002.1 bt1002.2 t1011 t1014 bt1017.1 bt1017.2 (bt1017.2 != bt1002.2) a0_0 l0_1 bt1006.1 bt1006.2) else (laws_FnExactWalkJoin.j0 k l1 l2 bt1002.1 bt1002.2 t1011 t1014 bt1017.1 bt1017.2 true a0_0 l0_1 bt1006.1 bt1006.2))))))))))))))) = some r := h
  clear h
  by_cases c4 : (l1.length : Int) > 1048576
  ·rw [if_pos c4] at H
   have c4b0 : decide (1048576 < (l1.length : Int)) = true := decide_eq_true c4
   have c4b1 : decide (1048576 < l1.length) = true := decide_eq_true (by omega)
   clear c4
   obtain rfl := Option.some.inj H
   go_enter Try.func16, Try.ntmps16
   go_wp2_with (first | ((with_reducible refine gate_dst (N := 3) rfl ?_); refine bx_ 3 #[.int .i64 a0_0, .slice A0_1 l0_1.length c0_1] 24 ?_; intro gb990 hg w5 hbox hb; have BK990 := Aside0.mk (hbox); have GW990 := Aside0.mk (zs_ hg (ne_ HB.out)); have GE990 := Aside0.mk (zs_ hg (ne_ HB.out)); replace HB := kB_ HB hb; clear hb hbox hg))
   go_ret
   exact ⟨nw_, ne_ HB.out⟩
  rw [if_neg c4] at H
  have c4b0 : decide (1048576 < (l1.length : Int)) = false := decide_eq_false c4
  have c4b1 : decide (1048576 < l1.length) = false := decide_eq_false (by omega)
  clear c4
  by_cases c6 : (l2.length : Int) > 1048576
  ·rw [if_pos c6] at H
   have c6b0 : decide (1048576 < (l2.length : Int)) = true := decide_eq_true c6
   have c6b1 : decide (1048576 < l2.length) = true := decide_eq_true (by omega)
   clear c6
   obtain rfl := Option.some.inj H
   go_enter Try.func16, Try.ntmps16
   go_wp2_with (first | ((with_reducible refine gate_dst (N := 3) rfl ?_); refine bx_ 3 #[.int .i64 a0_0, .slice A0_1 l0_1.length c0_1] 24 ?_; intro gb990 hg w7 hbox hb; have BK990 := Aside0.mk (hbox); have GW990 := Aside0.mk (zs_ hg (ne_ HB.out)); have GE990 := Aside0.mk (zs_ hg (ne_ HB.out)); replace HB := kB_ HB hb; clear hb hbox hg))
   go_ret
   exact ⟨nw_, ne_ HB.out⟩
  rw [if_neg c6] at H
  have c6b0 : decide (1048576 < (l2.length : Int)) = false := decide_eq_false c6
  have c6b1 : decide (1048576 < l2.length) = false := decide_eq_false (by omega)
  clear c6
  replace H := Option.bind_eq_some_iff.mp H
  obtain ⟨t991, A80, H⟩ := H
  try dsimp only at H
  have A8 := Aside0.mk A80
  clear A80
  by_cases c9 : t991 < 0
  ·rw [if_pos c9] at H
   have c9b0 : decide (t991 < 0) = true := decide_eq_true c9
   clear c9
   obtain rfl := Option.some.inj H
   go_enter Try.func16, Try.ntmps16
   go_wp2_with (first | ((with_reducible refine gate_dst (N := 3) rfl ?_); refine bx_ 3 #[.int .i64 a0_0, .slice A0_1 l0_1.length c0_1] 24 ?_; intro gb990 hg w10 hbox hb; have BK990 := Aside0.mk (hbox); have GW990 := Aside0.mk (zs_ hg (ne_ HB.out)); have GE990 := Aside0.mk (zs_ hg (ne_ HB.out)); replace HB := kB_ HB hb; clear hb hbox hg; obtain ⟨hcz11_0, hcz11_1, hfz11_0, hfz11_1⟩ := cz2_ BK990.out) | ((with_reducible refine gate_callee (f := 19) rfl ?_); refine gl_ (some 28) Try.func19 #[.agg #[.int .i64 a0_0, .slice A0_1 l0_1.length c0_1], .int .i64 1048576] ?_; (with_reducible refine (laws_szNet.calls a0_0 _ _ l0_1 1048576 t991 _ ?side1 ?side2 A8.out).mono ?_); (case side1 => exact nc_ (Kd.C_below HR0_1.out HB.out)); (case side2 => exact HC0_1.out); rintro e w12 ⟨rfl, hb⟩; refine ⟨_, rfl, ?_⟩; replace BK990 := kb_ BK990 hb; replace HB := kB_ HB hb; (try clear hb); (try clear hb2); (try clear hk); (try clear hi)))
   go_ret
   exact ⟨nw_, ne_ HB.out⟩
  rw [if_neg c9] at H
  have c9b0 : decide (t991 < 0) = false := decide_eq_false c9
  clear c9
  replace H := Option.bind_eq_some_iff.mp H
  obtain ⟨⟨t992, t993⟩, A130, H⟩ := H
  try dsimp only at H
  have A13 := Aside0.mk A130
  clear A130
  replace H := Option.bind_eq_some_iff.mp H
  obtain ⟨t996, A140, H⟩ := H
  try dsimp only at H
  have A14 := Aside0.mk A140
  clear A140
  replace H := Option.bind_eq_some_iff.mp H
  obtain ⟨t999, A150, H⟩ := H
  try dsimp only at H
  have A15 := Aside0.mk A150
  clear A150
  replace H := Option.bind_eq_some_iff.mp H
  obtain ⟨⟨t1002, t1005⟩, A160, H⟩ := H
  try dsimp only at H
  have A16 := Aside0.mk A160
  clear A160
  replace H := Option.bind_eq_some_iff.mp H
  obtain ⟨⟨t1006, t1007⟩, A170, H⟩ := H
  try dsimp only at H
  have A17 := Aside0.mk A170
  clear A170
  replace H := Option.bind_eq_some_iff.mp H
  obtain ⟨t1011, A180, H⟩ := H
  try dsimp only at H
  have A18 := Aside0.mk A180
  clear A180
  replace H := Option.bind_eq_some_iff.mp H
  obtain ⟨t1014, A190, H⟩ := H
  try dsimp only at H
  have A19 := Aside0.mk A190
  clear A190
  replace H := Option.bind_eq_some_iff.mp H
  obtain ⟨⟨t1017, t1020⟩, A200, H⟩ := H
  try dsimp only at H
  have A20 := Aside0.mk A200
  clear A200
  have HC21 := Aside0.mk H
  clear H
  go_enter Try.func16, Try.ntmps16
  go_upto_region 14 with (first | ((with_reducible refine gate_dst (N := 3) rfl ?_); refine bx_ 3 #[.int .i64 a0_0, .slice A0_1 l0_1.length c0_1] 24 ?_; intro gb990 hg w22 hbox hb; have BK990 := Aside0.mk (hbox); have GW990 := Aside0.mk (zs_ hg (ne_ HB.out)); have GE990 := Aside0.mk (zs_ hg (ne_ HB.out)); replace HB := kB_ HB hb; clear hb hbox hg; obtain ⟨hcz23_0, hcz23_1, hfz23_0, hfz23_1⟩ := cz2_ BK990.out) | ((with_reducible refine gate_callee (f := 19) rfl ?_); refine gl_ (some 28) Try.func19 #[.agg #[.int .i64 a0_0, .slice A0_1 l0_1.length c0_1], .int .i64 1048576] ?_; (with_reducible refine (laws_szNet.calls a0_0 _ _ l0_1 1048576 t991 _ ?side1 ?side2 A8.out).mono ?_); (case side1 => exact nc_ (Kd.C_below HR0_1.out HB.out)); (case side2 => exact HC0_1.out); rintro e w24 ⟨rfl, hb⟩; refine ⟨_, rfl, ?_⟩; replace BK990 := kb_ BK990 hb; replace HB := kB_ HB hb; (try clear hb); (try clear hb2); (try clear hk); (try clear hi); obtain ⟨hcz25_0, hcz25_1, hfz25_0, hfz25_1⟩ := cz2_ BK990.out) | ((with_reducible refine gate_callee (f := 21) rfl ?_); refine gl_ (some 33) Try.func21 #[.agg #[.int .i64 a0_0, .slice A0_1 l0_1.length c0_1]] ?_; (with_reducible refine (laws_toNet.calls k a0_0 _ _ l0_1 t992 t993 _ ?side1 ?side2 A13.out).mono ?_); (case side1 => exact nc_ (Kd.C_below HR0_1.out HB.out)); (case side2 => exact HC0_1.out); rintro e w26 ⟨v994, rfl, ho0, hb⟩; refine ⟨_, rfl, ?_⟩; have HO995 := Aside0.mk (Kd.R_lower ho0 (below_size (ne_ HB.out))); replace BK990 := kb_ BK990 hb; replace HB := kB_ HB hb; (try clear hb); (try clear hb2); (try clear hk); (try clear hi); (try clear ho0)) | ((with_reducible refine gate_callee (f := 45) rfl ?_); refine gl_ (some 35) Try.func45 #[.slice A1 l1.length c1] ?_; (with_reducible refine (laws_toIntS.calls k _ _ l1 t996 _ ?side1 ?side2 A14.out).mono ?_); (case side1 => exact nc_ (Kd.C_below HR1.out HB.out)); (case side2 => exact HC1.out); rintro e w27 ⟨v997, rfl, ho0, hb⟩; refine ⟨_, rfl, ?_⟩; have HO998 := Aside0.mk (Kd.R_lower ho0 (below_size (ne_ HB.out))); replace HO995 := kR_ HO995 hb; replace BK990 := kb_ BK990 hb; replace HB := kB_ HB hb; (try clear hb); (try clear hb2); (try clear hk); (try clear hi); (try clear ho0)) | ((with_reducible refine gate_callee (f := 45) rfl ?_); refine gl_ (some 37) Try.func45 #[.slice A2 l2.length c2] ?_; (with_reducible refine (laws_toIntS.calls k _ _ l2 t999 _ ?side1 ?side2 A15.out).mono ?_); (case side1 => exact nc_ (Kd.C_below HR2.out HB.out)); (case side2 => exact HC2.out); rintro e w28 ⟨v1000, rfl, ho0, hb⟩; refine ⟨_, rfl, ?_⟩; have HO1001 := Aside0.mk (Kd.R_lower (Kd.R_new' ho0 (Kd.R_lt (nr_ HO998.out))) (below_size (ne_ HB.out))); replace HO995 := kR_ HO995 hb; replace HO998 := Aside0.mk (Kd.R_elder' (nr_ HO998.out) (Kd.R_base ho0) hb); replace BK990 := kb_ BK990 hb; replace HB := kB_ HB hb; (try clear hb); (try clear hb2); (try clear hk); (try clear hi); (try clear ho0); obtain ⟨Ao29, co29, eo29⟩ := Kd.R_slice HO995.out; subst eo29; obtain ⟨Ao30, co30, eo30⟩ := Kd.R_slice HO998.out; subst eo30; obtain ⟨Ao31, co31, eo31⟩ := Kd.R_slice HO1001.out; subst eo31) | ((with_reducible refine gate_callee (f := 54) rfl ?_); refine gl_ (some 38) Try.func54 #[.agg #[.int .i64 t992, .slice Ao29 t993.length co29], .slice Ao30 t996.length co30, .slice Ao31 t999.length co31] ?_; (with_reducible refine (spec_WalkJoin.calls k t992 _ _ t993 _ _ t996 _ _ t999 t1002 t1005 _ ?side1 ?side2 ?side3 ?side4 ?side5 ?side6 A16.out).mono ?_); (case side1 => exact nc_ (rR16 HO995.out).2.2); (case side2 => exact (rR16 HO995.out).2.1); (case side3 => exact nc_ (rR16 HO998.out).2.2); (case side4 => exact (rR16 HO998.out).2.1); (case side5 => exact nc_ (rR16 HO1001.out).2.2); (case side6 => exact (rR16 HO1001.out).2.1); rintro e w32 ⟨v1003, rfl, ho0, hb⟩; refine ⟨_, rfl, ?_⟩; have HO1004 := Aside0.mk (Kd.R_lower (Kd.R_new' (Kd.R_new' ho0 (Kd.R_lt (nr_ HO998.out))) (Kd.R_lt (nr_ HO1001.out))) (below_size (ne_ HB.out))); replace HO995 := kR_ HO995 hb; replace HO998 := Aside0.mk (Kd.R_elder' (nr_ HO998.out) (Kd.R_base ho0) hb); replace HO1001 := Aside0.mk (Kd.R_elder' (nr_ HO1001.out) (Kd.R_base ho0) hb); replace BK990 := kb_ BK990 hb; replace HB := kB_ HB hb; (try clear hb); (try clear hb2); (try clear hk); (try clear hi); (try clear ho0); obtain ⟨hcz33_0, hcz33_1, hfz33_0, hfz33_1⟩ := cz2_ BK990.out) | ((with_reducible refine gate_callee (f := 21) rfl ?_); refine gl_ (some 42) Try.func21 #[.agg #[.int .i64 a0_0, .slice A0_1 l0_1.length c0_1]] ?_; (with_reducible refine (laws_toNet.calls k a0_0 _ _ l0_1 t1006 t1007 _ ?side1 ?side2 A17.out).mono ?_); (case side1 => exact nc_ (Kd.C_below HR0_1.out HB.out)); (case side2 => exact HC0_1.out); rintro e w34 ⟨v1008, rfl, ho0, hb⟩; refine ⟨_, rfl, ?_⟩; have HO1009 := Aside0.mk (Kd.R_lower (Kd.R_new' ho0 (Kd.R_lt (nr_ HO995.out))) (below_size (ne_ HB.out))); replace HO995 := Aside0.mk (Kd.R_elder' (nr_ HO995.out) (Kd.R_base ho0) hb); replace HO998 := kR_ HO998 hb; replace HO1001 := kR_ HO1001 hb; replace HO1004 := kR_ HO1004 hb; replace BK990 := kb_ BK990 hb; replace HB := kB_ HB hb; (try clear hb); (try clear hb2); (try clear hk); (try clear hi); (try clear ho0)) | ((with_reducible refine gate_dst (N := 10) rfl ?_); refine bx_ 10 #[.int .i64 0, .slice none 0 0] 29 ?_; intro gb1010 hg w35 hbox hb; have BK1010 := Aside0.mk (hbox); have GW1010 := Aside0.mk (zs_ hg (ne_ HB.out)); have GE1010 := Aside0.mk (zs_ hg (ne_ HB.out)); have NB990_1010 := Aside0.mk (nl_ BK990.out hg); have NB1010_990 := Aside0.mk (nm_ BK990.out hg); replace HO995 := kR_ HO995 hb; replace HO998 := kR_ HO998 hb; replace HO1001 := kR_ HO1001 hb; replace HO1004 := kR_ HO1004 hb; replace HO1009 := kR_ HO1009 hb; replace BK990 := kb_ BK990 hb; replace HB := kB_ HB hb; clear hb hbox hg; have hnb36 := NB1010_990.out; have hnc36 := NB990_1010.out; obtain ⟨hcz37_0, hcz37_1, hfz37_0, hfz37_1⟩ := cz2_ BK1010.out; obtain ⟨Ao38, co38, eo38⟩ := Kd.R_slice HO1009.out; subst eo38) | ((with_reducible refine gate_callee (f := 45) rfl ?_); refine gl_ (some 44) Try.func45 #[.slice A1 l1.length c1] ?_; (with_reducible refine (laws_toIntS.calls k _ _ l1 t1011 _ ?side1 ?side2 A18.out).mono ?_); (case side1 => exact Kd.C_below HR1.out (ne_ HB.out)); (case side2 => exact HC1.out); rintro e w39 ⟨v1012, rfl, ho0, hb⟩; refine ⟨_, rfl, ?_⟩; have HO1013 := Aside0.mk (Kd.R_lower (Kd.R_new' (Kd.R_new' (Kd.R_new' ho0 (Kd.R_lt (by (with_reducible repeat (first | apply Kd.R_alloc | apply Kd.R_drewN | apply rD16)); exact (Kd.R_mono (rf2_ (Kd.R_types HO998.out BK1010.out (by decide))) (fun _ h_ => h_.1))))) (Kd.R_lt (by (with_reducible repeat (first | apply Kd.R_alloc | apply Kd.R_drewN | apply rD16)); exact (Kd.R_mono (rf2_ (Kd.R_types HO1001.out BK1010.out (by decide))) (fun _ h_ => h_.1))))) (Kd.R_lt (by (with_reducible repeat (first | apply Kd.R_alloc | apply Kd.R_drewN | apply rD16)); exact (Kd.R_mono (rf2_ (Kd.R_types HO1004.out BK1010.out (by decide))) (fun _ h_ => h_.1))))) (below_size (ne_ HB.out))); replace HO995 := Aside0.mk (Kd.R_below (by (with_reducible repeat (first | apply Kd.R_alloc | apply Kd.R_drewN | apply rD16)); exact (Kd.R_mono (rf2_ (Kd.R_types HO995.out BK1010.out (by decide))) (fun _ h_ => h_.1))) hb); replace HO998 := Aside0.mk (Kd.R_elder' (by (with_reducible repeat (first | apply Kd.R_alloc | apply Kd.R_drewN | apply rD16)); exact (Kd.R_mono (rf2_ (Kd.R_types HO998.out BK1010.out (by decide))) (fun _ h_ => h_.1))) (Kd.R_base ho0) hb); replace HO1001 := Aside0.mk (Kd.R_elder' (by (with_reducible repeat (first | apply Kd.R_alloc | apply Kd.R_drewN | apply rD16)); exact (Kd.R_mono (rf2_ (Kd.R_types HO1001.out BK1010.out (by decide))) (fun _ h_ => h_.1))) (Kd.R_base ho0) hb); replace HO1004 := Aside0.mk (Kd.R_elder' (by (with_reducible repeat (first | apply Kd.R_alloc | apply Kd.R_drewN | apply rD16)); exact (Kd.R_mono (rf2_ (Kd.R_types HO1004.out BK1010.out (by decide))) (fun _ h_ => h_.1))) (Kd.R_base ho0) hb); replace HO1009 := Aside0.mk (Kd.R_below (by (with_reducible repeat (first | apply Kd.R_alloc | apply Kd.R_drewN | apply rD16)); exact (Kd.R_mono (rf2_ (Kd.R_types HO1009.out BK1010.out (by decide))) (fun _ h_ => h_.1))) hb); replace BK990 := kf_ BK990 hb; replace BK1010 := Aside0.mk (blk_below (g := gb1010) (o := .cells #[.int .i64 t1006, .slice Ao38 t1007.length co38] 29 (0, 0)) (np_ BK1010.out) hb); replace HB := kB_ HB hb; (try clear hb); (try clear hb2); (try clear hk); (try clear hi); (try clear ho0)) | ((with_reducible refine gate_callee (f := 45) rfl ?_); refine gl_ (some 46) Try.func45 #[.slice A2 l2.length c2] ?_; (with_reducible refine (laws_toIntS.calls k _ _ l2 t1014 _ ?side1 ?side2 A19.out).mono ?_); (case side1 => exact nc_ (Kd.C_below HR2.out HB.out)); (case side2 => exact HC2.out); rintro e w40 ⟨v1015, rfl, ho0, hb⟩; refine ⟨_, rfl, ?_⟩; have HO1016 := Aside0.mk (Kd.R_lower (Kd.R_new' (Kd.R_new' (Kd.R_new' (Kd.R_new' ho0 (Kd.R_lt (nr_ HO998.out))) (Kd.R_lt (nr_ HO1001.out))) (Kd.R_lt (nr_ HO1004.out))) (Kd.R_lt (nr_ HO1013.out))) (below_size (ne_ HB.out))); replace HO995 := kR_ HO995 hb; replace HO998 := Aside0.mk (Kd.R_elder' (nr_ HO998.out) (Kd.R_base ho0) hb); replace HO1001 := Aside0.mk (Kd.R_elder' (nr_ HO1001.out) (Kd.R_base ho0) hb); replace HO1004 := Aside0.mk (Kd.R_elder' (nr_ HO1004.out) (Kd.R_base ho0) hb); replace HO1009 := kR_ HO1009 hb; replace HO1013 := Aside0.mk (Kd.R_elder' (nr_ HO1013.out) (Kd.R_base ho0) hb); replace BK990 := kb_ BK990 hb; replace BK1010 := kb_ BK1010 hb; replace HB := kB_ HB hb; (try clear hb); (try clear hb2); (try clear hk); (try clear hi); (try clear ho0); obtain ⟨hcz41_0, hcz41_1, hfz41_0, hfz41_1⟩ := cz2_ BK1010.out; obtain ⟨Ao42, co42, eo42⟩ := Kd.R_slice HO1013.out; subst eo42; obtain ⟨Ao43, co43, eo43⟩ := Kd.R_slice HO1016.out; subst eo43) | ((with_reducible refine gate_callee (f := 53) rfl ?_); refine gl_ (some 51) Try.func53 #[.agg #[.int .i64 t1006, .slice Ao38 t1007.length co38], .slice Ao42 t1011.length co42, .slice Ao43 t1014.length co43] ?_; (with_reducible refine (impl_WalkJoin.calls k t1006 _ _ t1007 (fun k_ => some k_ = (.slice Ao42 t1011.length co42 : Value).ownBlock) _ _ t1011 (fun k_ => some k_ = (.slice Ao43 t1014.length co43 : Value).ownBlock) _ _ t1014 t1017 t1020 _ ?side1 ?side2 ?side3 ?side4 A20.out).mono ?_); (case side1 => exact nc_ (rR16 HO1009.out).2.2); (case side2 => exact (rR16 HO1009.out).2.1); (case side3 => exact Kd.R_V (Kd.R_tight rfl (Kd.R_types (Kd.R_types (Kd.R_apart' (Kd.R_apart' (HO1013.out) (Kd.R_typed HO995.out) (by decide)) (Kd.R_typed HO1009.out) (by decide)) BK990.out (by decide)) BK1010.out (by decide)))); (case side4 => exact Kd.R_V (Kd.R_tight rfl (Kd.R_types (Kd.R_types (Kd.R_apart' (Kd.R_apart' (HO1016.out) (Kd.R_typed HO995.out) (by decide)) (Kd.R_typed HO1009.out) (by decide)) BK990.out (by decide)) BK1010.out (by decide)))); rintro e w44 ⟨v1018, rfl, ho0, hb⟩; refine ⟨_, rfl, ?_⟩; have HO1019 := Aside0.mk (Kd.R_lower (Kd.R_new' (Kd.R_new' (Kd.R_new' (Kd.R_new' (Kd.R_new' (Kd.R_mono (ok' := fun k_ => True) ho0 (fun _ hk_ => trivial)) (Kd.R_lt (nr_ HO998.out))) (Kd.R_lt (nr_ HO1001.out))) (Kd.R_lt (nr_ HO1004.out))) (Kd.R_lt (nr_ HO1013.out))) (Kd.R_lt (nr_ HO1016.out))) (below_size (ne_ HB.out))); replace HO995 := kR_ HO995 hb; replace HO998 := Aside0.mk (Kd.R_elder' (nr_ HO998.out) (Kd.R_base ho0) hb); replace HO1001 := Aside0.mk (Kd.R_elder' (nr_ HO1001.out) (Kd.R_base ho0) hb); replace HO1004 := Aside0.mk (Kd.R_elder' (nr_ HO1004.out) (Kd.R_base ho0) hb); replace HO1009 := kR_ HO1009 hb; replace HO1013 := Aside0.mk (Kd.R_elder' (nr_ HO1013.out) (Kd.R_base ho0) hb); replace HO1016 := Aside0.mk (Kd.R_elder' (nr_ HO1016.out) (Kd.R_base ho0) hb); replace BK990 := kb_ BK990 hb; replace BK1010 := kb_ BK1010 hb; replace HB := kB_ HB hb; (try clear hb); (try clear hb2); (try clear hk); (try clear hi); (try clear ho0)))
  (try simp only [Act.put, List.setIfInBounds_toArray, List.set_cons_zero, List.set_cons_succ])
  go_cut [62] (fun v62 wc => ∃ (kq : Nat) (x62_20 : Bool), v62 = .bool x62_20 ∧ Aside0 (laws_FnExactWalkJoin.j0 kq l1 l2 t1002 t1005 t1011 t1014 t1017 t1020 x62_20 a0_0 l0_1 t1006 t1007 = some r) ∧ Aside0 (kq ≤ k) ∧ Aside0 (Kd.R (Kd.int .i64) 3 wc w.heap.size (fun k_ => some k_ ≠ ((.slice Ao42 t1011.length co42) : Value).ownBlock ∧ some k_ ≠ ((.slice Ao43 t1014.length co43) : Value).ownBlock ∧ some k_ ≠ (v1018 : Value).ownBlock) v1003 t1002) ∧ Aside0 (Kd.R (Kd.int .i64) 3 wc w.heap.size (fun k_ => some k_ ≠ (v1003 : Value).ownBlock ∧ some k_ ≠ ((.slice Ao43 t1014.length co43) : Value).ownBlock ∧ some k_ ≠ (v1018 : Value).ownBlock) (.slice Ao42 t1011.length co42) t1011) ∧ Aside0 (Kd.R (Kd.int .i64) 3 wc w.heap.size (fun k_ => some k_ ≠ (v1003 : Value).ownBlock ∧ some k_ ≠ ((.slice Ao42 t1011.length co42) : Value).ownBlock ∧ some k_ ≠ (v1018 : Value).ownBlock) (.slice Ao43 t1014.length co43) t1014) ∧ Aside0 (Kd.R (Kd.int .i64) 3 wc w.heap.size (fun k_ => some k_ ≠ (v1003 : Value).ownBlock ∧ some k_ ≠ ((.slice Ao42 t1011.length co42) : Value).ownBlock ∧ some k_ ≠ ((.slice Ao43 t1014.length co43) : Value).ownBlock) v1018 t1017) ∧ Aside0 (Kd.R k37 37 wc w.heap.size (fun _ => True) (.slice Ao38 t1007.length co38) t1007) ∧ Aside0 (wc.heap[gb990]? = some (.cells #[.int .i64 a0_0, (.slice A0_1 l0_1.length c0_1)] 24 (0, 0))) ∧ Aside0 (wc.heap[gb1010]? = some (.cells #[.int .i64 t1006, (.slice Ao38 t1007.length co38)] 29 (0, 0))) ∧ Aside0 (Below w.heap.size w wc))
  case first =>
   have H := HC21.out
   clear HC21
   replace H := Option.bind_eq_some_iff.mp H
   obtain ⟨t1021, A450, H⟩ := H
   try dsimp only at H
   have A45 := Aside0.mk A450
   clear A450
   by_cases c46 : t1021 = true
   ·subst c46
    rw [if_pos rfl] at H
    have H' := Aside0.mk H
    clear H
    obtain ⟨Ao47, co47, eo47⟩ := Kd.R_slice HO1019.out
    subst eo47
    obtain ⟨Ao48, co48, eo48⟩ := Kd.R_slice HO1004.out
    subst eo48
    go_wp2_with (first | ((with_reducible refine gate_callee (f := 32) rfl ?_); refine gl_ (some 56) Try.func32 #[.slice Ao47 t1017.length co47, .slice Ao48 t1002.length co48] ?_; (with_reducible refine (laws_eqIntS.calls k _ _ t1017 _ _ t1002 true _ ?side1 ?side2 ?side3 ?side4 A45.out).mono ?_); (case side1 => exact nc_ (rR16 HO1019.out).2.2); (case side2 => exact (rR16 HO1019.out).2.1); (case side3 => exact nc_ (rR16 HO1004.out).2.2); (case side4 => exact (rR16 HO1004.out).2.1); rintro e w' ⟨rfl, ⟨nd, rfl⟩⟩; refine ⟨_, rfl, ?_⟩))
    go_meet
    case rel => exact ⟨_, ((t1020 != t1005)), ns_, H', ⟨by first | omega | exact Nat.le_refl _⟩, ⟨by (with_reducible repeat (first | apply Kd.R_alloc | apply Kd.R_drewN | apply rD16)); exact Kd.R_mono HO1004.out (fun _ hk => by first | exact ⟨hk.1.1.2, ⟨hk.1.2, hk.2⟩⟩ | trivial | simp_all)⟩, ⟨by (with_reducible repeat (first | apply Kd.R_alloc | apply Kd.R_drewN | apply rD16)); exact Kd.R_mono HO1013.out (fun _ hk => by first | exact ⟨hk.1.1.2, ⟨hk.1.2, hk.2⟩⟩ | trivial | simp_all)⟩, ⟨by (with_reducible repeat (first | apply Kd.R_alloc | apply Kd.R_drewN | apply rD16)); exact Kd.R_mono HO1016.out (fun _ hk => by first | exact ⟨hk.1.1.2, ⟨hk.1.2, hk.2⟩⟩ | trivial | simp_all)⟩, ⟨by (with_reducible repeat (first | apply Kd.R_alloc | apply Kd.R_drewN | apply rD16)); exact Kd.R_mono HO1019.out (fun _ hk => by first | exact ⟨hk.1.1.2, ⟨hk.1.2, hk.2⟩⟩ | trivial | simp_all)⟩, ⟨by (with_reducible repeat (first | apply Kd.R_alloc | apply Kd.R_drewN | apply rD16)); exact Kd.R_mono HO1009.out (fun _ hk => trivial)⟩, ⟨nb_ BK990.out⟩, ⟨nb_ BK1010.out⟩, ⟨ne_ HB.out⟩⟩
   replace c46 := Bool.eq_false_iff.mpr c46
   subst c46
   have H1 : (laws_FnExactWalkJoin.j0 k l1 l2 t1002 t1005 t1011 t1014 t1017 t1020 true a0_0 l0_1 t1006 t1007) = some r := by rw [if_neg (show ¬ (false = true) by decide)] at H; exact H
   clear H
   have H := H1
   clear H1
   have H' := Aside0.mk H
   clear H
   obtain ⟨Ao49, co49, eo49⟩ := Kd.R_slice HO1019.out
   subst eo49
   obtain ⟨Ao50, co50, eo50⟩ := Kd.R_slice HO1004.out
   subst eo50
   go_wp2_with (first | ((with_reducible refine gate_callee (f := 32) rfl ?_); refine gl_ (some 56) Try.func32 #[.slice Ao49 t1017.length co49, .slice Ao50 t1002.length co50] ?_; (with_reducible refine (laws_eqIntS.calls k _ _ t1017 _ _ t1002 false _ ?side1 ?side2 ?side3 ?side4 A45.out).mono ?_); (case side1 => exact nc_ (rR16 HO1019.out).2.2); (case side2 => exact (rR16 HO1019.out).2.1); (case side3 => exact nc_ (rR16 HO1004.out).2.2); (case side4 => exact (rR16 HO1004.out).2.1); rintro e w' ⟨rfl, ⟨nd, rfl⟩⟩; refine ⟨_, rfl, ?_⟩))
   go_meet
   case rel => exact ⟨_, (true), ns_, H', ⟨by first | omega | exact Nat.le_refl _⟩, ⟨by (with_reducible repeat (first | apply Kd.R_alloc | apply Kd.R_drewN | apply rD16)); exact Kd.R_mono HO1004.out (fun _ hk => by first | exact ⟨hk.1.1.2, ⟨hk.1.2, hk.2⟩⟩ | trivial | simp_all)⟩, ⟨by (with_reducible repeat (first | apply Kd.R_alloc | apply Kd.R_drewN | apply rD16)); exact Kd.R_mono HO1013.out (fun _ hk => by first | exact ⟨hk.1.1.2, ⟨hk.1.2, hk.2⟩⟩ | trivial | simp_all)⟩, ⟨by (with_reducible repeat (first | apply Kd.R_alloc | apply Kd.R_drewN | apply rD16)); exact Kd.R_mono HO1016.out (fun _ hk => by first | exact ⟨hk.1.1.2, ⟨hk.1.2, hk.2⟩⟩ | trivial | simp_all)⟩, ⟨by (with_reducible repeat (first | apply Kd.R_alloc | apply Kd.R_drewN | apply rD16)); exact Kd.R_mono HO1019.out (fun _ hk => by first | exact ⟨hk.1.1.2, ⟨hk.1.2, hk.2⟩⟩ | trivial | simp_all)⟩, ⟨by (with_reducible repeat (first | apply Kd.R_alloc | apply Kd.R_drewN | apply rD16)); exact Kd.R_mono HO1009.out (fun _ hk => trivial)⟩, ⟨nb_ BK990.out⟩, ⟨nb_ BK1010.out⟩, ⟨ne_ HB.out⟩⟩
  case rest =>
   clear HC21
   try clear c1
   try clear c2
   try clear c4
   try clear c4b0
   try clear c4b1
   try clear c6
   try clear c6b0
   try clear c6b1
   try clear c9
   try clear c9b0
   try clear hcz23_0
   try clear hcz23_1
   try clear hcz25_0
   try clear hcz25_1
   try clear hcz33_0
   try clear hcz33_1
   try clear hcz37_0
   try clear hcz37_1
   try clear hcz41_0
   try clear hcz41_1
   try clear hfz23_0
   try clear hfz23_1
   try clear hfz25_0
   try clear hfz25_1
   try clear hfz33_0
   try clear hfz33_1
   try clear hfz37_0
   try clear hfz37_1
   try clear hfz41_0
   try clear hfz41_1
   obtain ⟨kq, x62_20, rfl, HA, HJ20, HO_8, HO_11, HO_12, HO_13, HO_1011001, BK990, BK1010, HB⟩ := hcut
   cases kq with
   | zero => exact absurd HA.out (by simp [laws_FnExactWalkJoin.j0])
   | succ kj20 =>
    have H := HA.out
    clear HA
    simp only [laws_FnExactWalkJoin.j0] at H
    by_cases c51 : x62_20 = true
    ·subst c51
     have H1 : (some false) = some r := by rw [if_pos rfl] at H; exact H
     clear H
     have H := H1
     clear H1
     obtain rfl := Option.some.inj H
     go_wp2
     go_ret
     exact ⟨nw_, ne_ HB.out⟩
    replace c51 := Bool.eq_false_iff.mpr c51
    subst c51
    have H1 : ((laws_toNet.f kj20 a0_0 l0_1).bind fun bt1022 => ((laws_eqNet.f kj20 t1006 t1007 bt1022.1 bt1022.2).bind fun t1026 => (if t1026 = true then ((laws_toIntS.f kj20 l1).bind fun t1027 => ((laws_eqIntS.f kj20 t1011 t1027).bind fun t1030 => (if t1030 = true then ((laws_toIntS.f kj20 l2).bind fun t1031 => ((laws_eqIntS.f kj20 t1014 t1031).bind fun t1034 => (if t1034 = true then ((laws_markNet.f kj20 t1006 t1007 1).bind fun bt1035 => ((laws_markIntS.f kj20 t1011 bt1035.1).bind fun bt1037 => ((laws_markIntS.f kj20 t1014 bt1037.1).bind fun bt1039 => (if bt1039.1 < 0 then (laws_FnExactWalkJoin.j1 kj20 l1 l2 t1002 t1005 t1017 true a0_0 l0_1) else ((laws_eqIntS.f kj20 t1017 t1002).bind fun t1041 => (if t1041 = true then (laws_FnExactWalkJoin.j1 kj20 l1 l2 t1002 t1005 t1017 (t1020 != t1005) a0_0 l0_1) else (laws_FnExactWalkJoin.j1 kj20 l1 l2 t1002 t1005 t1017 true a0_0 l0_1))))))) else (some false)))) else (some false)))) else (some false)))) = some r := by rw [if_neg (show ¬ (false = true) by decide)] at H; exact H
    clear H
    have H := H1
    clear H1
    replace H := Option.bind_eq_some_iff.mp H
    obtain ⟨⟨t1022, t1023⟩, A520, H⟩ := H
    try dsimp only at H
    have A52 := Aside0.mk A520
    clear A520
    replace H := Option.bind_eq_some_iff.mp H
    obtain ⟨t1026, A530, H⟩ := H
    try dsimp only at H
    have A53 := Aside0.mk A530
    clear A530
    by_cases c54 : t1026 = true
    rotate_left
    ·replace c54 := Bool.eq_false_iff.mpr c54
     subst c54
     have H1 : (some false) = some r := by rw [if_neg (show ¬ (false = true) by decide)] at H; exact H
     clear H
     have H := H1
     clear H1
     obtain rfl := Option.some.inj H
     try go_wp2
     replace HO_8 := Aside0.mk (rD16 HO_8.out)
     replace HO_11 := Aside0.mk (rD16 HO_11.out)
     replace HO_12 := Aside0.mk (rD16 HO_12.out)
     replace HO_13 := Aside0.mk (rD16 HO_13.out)
     replace HO_1011001 := Aside0.mk (rD16 HO_1011001.out)
     replace BK990 := Aside0.mk (blk_drew BK990.out)
     replace BK1010 := Aside0.mk (blk_drew BK1010.out)
     replace HB := Aside0.mk (below_drew1 HB.out)
     refine start_ (n := 5) (S := fun w' => w'.cell? ⟨gb1010, 0, none⟩ = some (.int .i64 t1006) ∧ w'.cell? ⟨gb1010, 1, none⟩ = some (.slice Ao38 t1007.length co38) ∧ w'.cell? ⟨gb990, 0, none⟩ = some (.int .i64 a0_0) ∧ w'.cell? ⟨gb990, 1, none⟩ = some (.slice A0_1 l0_1.length c0_1)) (ds := []) #[false, false, false, false, false] (by kernel_rfl) rfl rfl ⟨ct_ BK1010.out 0, ct_ BK1010.out 1, ct_ BK990.out 0, ct_ BK990.out 1⟩ (fun hHeld => ?_)
     generalize wc.drew = w134 at HO_8 HO_11 HO_12 HO_13 HO_1011001 BK990 BK1010 HB hHeld ⊢
     refine take_ (i := 0) (N := some 63) (v := ?_) (a' := ?_) #[true, false, false, false, false] rfl rfl (by kernel_rfl) (fun _ _ _ h => h) (Or.inl ⟨by rfl, ?_⟩) hHeld ?_ ?_
     rotate_left
     ·rintro w' ⟨s0, s1, s2, s3⟩
      go_simp
      with_reducible rfl
     rotate_left
     ·simp only [Act.put, List.setIfInBounds_toArray, List.set_cons_zero, List.set_cons_succ, i64_w, i32_w]
      rfl
     refine take_ (i := 1) (N := some 64) (v := ?_) (a' := ?_) #[true, true, false, false, false] rfl rfl (by kernel_rfl) (fun _ _ _ h => h) (Or.inl ⟨by rfl, ?_⟩) hHeld ?_ ?_
     rotate_left
     ·rintro w' ⟨s0, s1, s2, s3⟩
      go_simp
      with_reducible rfl
     rotate_left
     ·simp only [Act.put, List.setIfInBounds_toArray, List.set_cons_zero, List.set_cons_succ, i64_w, i32_w]
      rfl
     refine one_ (i := 2) (N := some 65) #[true, true, true, false, false] rfl rfl (by kernel_rfl) (by decide) (fun K hK => ?_)
     refine go_ Try.func21 #[.agg #[.int .i64 a0_0, .slice A0_1 l0_1.length c0_1]] ?_
     with_reducible refine (laws_toNet.calls kj20 a0_0 _ _ l0_1 t1022 t1023 _ ?side1 ?side2 A52.out).mono ?_
     (case side1 => exact nc_ (Kd.C_below HR0_1.out HB.out))
     (case side2 => exact HC0_1.out)
     rintro e w135 ⟨v1024, rfl, ho0, hb⟩
     refine ⟨_, rfl, ?_⟩
     replace HO_8 := kR_ HO_8 hb
     replace HO_11 := kR_ HO_11 hb
     replace HO_12 := kR_ HO_12 hb
     replace HO_13 := kR_ HO_13 hb
     have HO1025 := Aside0.mk (Kd.R_lower (Kd.R_new' ho0 (Kd.R_lt (nr_ HO_1011001.out))) (below_size (ne_ HB.out)))
     replace HO_1011001 := Aside0.mk (Kd.R_elder' (nr_ HO_1011001.out) (Kd.R_base ho0) hb)
     replace BK990 := kb_ BK990 hb
     replace BK1010 := kb_ BK1010 hb
     replace HB := kB_ HB hb
     (try clear hb)
     (try clear hb2)
     (try clear hk)
     (try clear hi)
     (try clear ho0)
     obtain ⟨Ao136, co136, eo136⟩ := Kd.R_slice HO1025.out
     (first | subst eo136 | (injection eo136 with f1_ f2_ f3_; have f4_ := f1_.symm; have f5_ := f3_.symm; clear f1_ f2_ f3_; subst f4_; subst f5_))
     refine hK.out _ _ ⟨ct_ BK1010.out 0, ct_ BK1010.out 1, ct_ BK990.out 0, ct_ BK990.out 1⟩ (fun hHeld => ?_)
     clear hK K
     refine nm1_ (some 65) ?_
     refine one_ (i := 3) (N := some 66) #[true, true, true, true, false] rfl rfl (by kernel_rfl) (by decide) (fun K hK => ?_)
     refine go_ Try.func23 #[.agg #[.int .i64 t1006, .slice Ao38 t1007.length co38], .agg #[.int .i64 t1022, .slice Ao136 t1023.length co136]] ?_
     with_reducible refine (laws_eqNet.calls kj20 t1006 _ _ t1007 t1022 _ _ t1023 false _ ?side1 ?side2 ?side3 ?side4 A53.out).mono ?_
     (case side1 => exact nc_ (rR16 HO_1011001.out).2.2)
     (case side2 => exact (rR16 HO_1011001.out).2.1)
     (case side3 => exact nc_ (rR16 HO1025.out).2.2)
     (case side4 => exact (rR16 HO1025.out).2.1)
     rintro e w137 ⟨rfl, hb⟩
     refine ⟨_, rfl, ?_⟩
     replace HO_8 := kR_ HO_8 hb
     replace HO_11 := kR_ HO_11 hb
     replace HO_12 := kR_ HO_12 hb
     replace HO_13 := kR_ HO_13 hb
     replace HO_1011001 := kR_ HO_1011001 hb
     replace HO1025 := kR_ HO1025 hb
     replace BK990 := kb_ BK990 hb
     replace BK1010 := kb_ BK1010 hb
     replace HB := kB_ HB hb
     (try clear hb)
     (try clear hb2)
     (try clear hk)
     (try clear hi)
     refine hK.out _ _ ⟨ct_ BK1010.out 0, ct_ BK1010.out 1, ct_ BK990.out 0, ct_ BK990.out 1⟩ (fun hHeld => ?_)
     clear hK K
     refine nm1_ (some 66) ?_
     refine pure_ (i := 4) (N := some 67) (v := ?_) (a' := ?_) #[true, true, true, true, true] rfl rfl (by kernel_rfl) (fun _ _ _ h => h) (Or.inl ⟨by rfl, ?_⟩) ?_ ?_
     rotate_left
     ·intro w'
      go_simp
      with_reducible rfl
     rotate_left
     ·simp only [Act.put, List.setIfInBounds_toArray, List.set_cons_zero, List.set_cons_succ, i64_w, i32_w]
      rfl
     refine done_ (by kernel_rfl) ?_
     try go_wp2
     go_ret
     exact ⟨nw_, ne_ HB.out⟩

    subst c54
    rw [if_pos rfl] at H
    replace H := Option.bind_eq_some_iff.mp H
    obtain ⟨t1027, A550, H⟩ := H
    try dsimp only at H
    have A55 := Aside0.mk A550
    clear A550
    replace H := Option.bind_eq_some_iff.mp H
    obtain ⟨t1030, A560, H⟩ := H
    try dsimp only at H
    have A56 := Aside0.mk A560
    clear A560
    by_cases c57 : t1030 = true
    rotate_left
    ·replace c57 := Bool.eq_false_iff.mpr c57
     subst c57
     have H1 : (some false) = some r := by rw [if_neg (show ¬ (false = true) by decide)] at H; exact H
     clear H
     have H := H1
     clear H1
     obtain rfl := Option.some.inj H
     try go_wp2
     replace HO_8 := Aside0.mk (rD16 HO_8.out)
     replace HO_11 := Aside0.mk (rD16 HO_11.out)
     replace HO_12 := Aside0.mk (rD16 HO_12.out)
     replace HO_13 := Aside0.mk (rD16 HO_13.out)
     replace HO_1011001 := Aside0.mk (rD16 HO_1011001.out)
     replace BK990 := Aside0.mk (blk_drew BK990.out)
     replace BK1010 := Aside0.mk (blk_drew BK1010.out)
     replace HB := Aside0.mk (below_drew1 HB.out)
     refine start_ (n := 5) (S := fun w' => w'.cell? ⟨gb1010, 0, none⟩ = some (.int .i64 t1006) ∧ w'.cell? ⟨gb1010, 1, none⟩ = some (.slice Ao38 t1007.length co38) ∧ w'.cell? ⟨gb990, 0, none⟩ = some (.int .i64 a0_0) ∧ w'.cell? ⟨gb990, 1, none⟩ = some (.slice A0_1 l0_1.length c0_1)) (ds := []) #[false, false, false, false, false] (by kernel_rfl) rfl rfl ⟨ct_ BK1010.out 0, ct_ BK1010.out 1, ct_ BK990.out 0, ct_ BK990.out 1⟩ (fun hHeld => ?_)
     generalize wc.drew = w128 at HO_8 HO_11 HO_12 HO_13 HO_1011001 BK990 BK1010 HB hHeld ⊢
     refine take_ (i := 0) (N := some 63) (v := ?_) (a' := ?_) #[true, false, false, false, false] rfl rfl (by kernel_rfl) (fun _ _ _ h => h) (Or.inl ⟨by rfl, ?_⟩) hHeld ?_ ?_
     rotate_left
     ·rintro w' ⟨s0, s1, s2, s3⟩
      go_simp
      with_reducible rfl
     rotate_left
     ·simp only [Act.put, List.setIfInBounds_toArray, List.set_cons_zero, List.set_cons_succ, i64_w, i32_w]
      rfl
     refine take_ (i := 1) (N := some 64) (v := ?_) (a' := ?_) #[true, true, false, false, false] rfl rfl (by kernel_rfl) (fun _ _ _ h => h) (Or.inl ⟨by rfl, ?_⟩) hHeld ?_ ?_
     rotate_left
     ·rintro w' ⟨s0, s1, s2, s3⟩
      go_simp
      with_reducible rfl
     rotate_left
     ·simp only [Act.put, List.setIfInBounds_toArray, List.set_cons_zero, List.set_cons_succ, i64_w, i32_w]
      rfl
     refine one_ (i := 2) (N := some 65) #[true, true, true, false, false] rfl rfl (by kernel_rfl) (by decide) (fun K hK => ?_)
     refine go_ Try.func21 #[.agg #[.int .i64 a0_0, .slice A0_1 l0_1.length c0_1]] ?_
     with_reducible refine (laws_toNet.calls kj20 a0_0 _ _ l0_1 t1022 t1023 _ ?side1 ?side2 A52.out).mono ?_
     (case side1 => exact nc_ (Kd.C_below HR0_1.out HB.out))
     (case side2 => exact HC0_1.out)
     rintro e w129 ⟨v1024, rfl, ho0, hb⟩
     refine ⟨_, rfl, ?_⟩
     replace HO_8 := kR_ HO_8 hb
     replace HO_11 := kR_ HO_11 hb
     replace HO_12 := kR_ HO_12 hb
     replace HO_13 := kR_ HO_13 hb
     have HO1025 := Aside0.mk (Kd.R_lower (Kd.R_new' ho0 (Kd.R_lt (nr_ HO_1011001.out))) (below_size (ne_ HB.out)))
     replace HO_1011001 := Aside0.mk (Kd.R_elder' (nr_ HO_1011001.out) (Kd.R_base ho0) hb)
     replace BK990 := kb_ BK990 hb
     replace BK1010 := kb_ BK1010 hb
     replace HB := kB_ HB hb
     (try clear hb)
     (try clear hb2)
     (try clear hk)
     (try clear hi)
     (try clear ho0)
     obtain ⟨Ao130, co130, eo130⟩ := Kd.R_slice HO1025.out
     (first | subst eo130 | (injection eo130 with f1_ f2_ f3_; have f4_ := f1_.symm; have f5_ := f3_.symm; clear f1_ f2_ f3_; subst f4_; subst f5_))
     refine hK.out _ _ ⟨ct_ BK1010.out 0, ct_ BK1010.out 1, ct_ BK990.out 0, ct_ BK990.out 1⟩ (fun hHeld => ?_)
     clear hK K
     refine nm1_ (some 65) ?_
     refine one_ (i := 3) (N := some 66) #[true, true, true, true, false] rfl rfl (by kernel_rfl) (by decide) (fun K hK => ?_)
     refine go_ Try.func23 #[.agg #[.int .i64 t1006, .slice Ao38 t1007.length co38], .agg #[.int .i64 t1022, .slice Ao130 t1023.length co130]] ?_
     with_reducible refine (laws_eqNet.calls kj20 t1006 _ _ t1007 t1022 _ _ t1023 true _ ?side1 ?side2 ?side3 ?side4 A53.out).mono ?_
     (case side1 => exact nc_ (rR16 HO_1011001.out).2.2)
     (case side2 => exact (rR16 HO_1011001.out).2.1)
     (case side3 => exact nc_ (rR16 HO1025.out).2.2)
     (case side4 => exact (rR16 HO1025.out).2.1)
     rintro e w131 ⟨rfl, hb⟩
     refine ⟨_, rfl, ?_⟩
     replace HO_8 := kR_ HO_8 hb
     replace HO_11 := kR_ HO_11 hb
     replace HO_12 := kR_ HO_12 hb
     replace HO_13 := kR_ HO_13 hb
     replace HO_1011001 := kR_ HO_1011001 hb
     replace HO1025 := kR_ HO1025 hb
     replace BK990 := kb_ BK990 hb
     replace BK1010 := kb_ BK1010 hb
     replace HB := kB_ HB hb
     (try clear hb)
     (try clear hb2)
     (try clear hk)
     (try clear hi)
     refine hK.out _ _ ⟨ct_ BK1010.out 0, ct_ BK1010.out 1, ct_ BK990.out 0, ct_ BK990.out 1⟩ (fun hHeld => ?_)
     clear hK K
     refine nm1_ (some 66) ?_
     refine pure_ (i := 4) (N := some 67) (v := ?_) (a' := ?_) #[true, true, true, true, true] rfl rfl (by kernel_rfl) (fun _ _ _ h => h) (Or.inl ⟨by rfl, ?_⟩) ?_ ?_
     rotate_left
     ·intro w'
      go_simp
      with_reducible rfl
     rotate_left
     ·simp only [Act.put, List.setIfInBounds_toArray, List.set_cons_zero, List.set_cons_succ, i64_w, i32_w]
      rfl
     refine done_ (by kernel_rfl) ?_
     try go_wp2_with (first | ((with_reducible refine gate_callee (f := 45) rfl ?_); refine gl_ (some 70) Try.func45 #[.slice A1 l1.length c1] ?_; (with_reducible refine (laws_toIntS.calls kj20 _ _ l1 t1027 _ ?side1 ?side2 A55.out).mono ?_); (case side1 => exact nc_ (Kd.C_below HR1.out HB.out)); (case side2 => exact HC1.out); rintro e w132 ⟨v1028, rfl, ho0, hb⟩; refine ⟨_, rfl, ?_⟩; have HO1029 := Aside0.mk (Kd.R_lower (Kd.R_new' (Kd.R_new' (Kd.R_new' (Kd.R_new' ho0 (Kd.R_lt (nr_ HO_8.out))) (Kd.R_lt (nr_ HO_11.out))) (Kd.R_lt (nr_ HO_12.out))) (Kd.R_lt (nr_ HO_13.out))) (below_size (ne_ HB.out))); replace HO_8 := Aside0.mk (Kd.R_elder' (nr_ HO_8.out) (Kd.R_base ho0) hb); replace HO_11 := Aside0.mk (Kd.R_elder' (nr_ HO_11.out) (Kd.R_base ho0) hb); replace HO_12 := Aside0.mk (Kd.R_elder' (nr_ HO_12.out) (Kd.R_base ho0) hb); replace HO_13 := Aside0.mk (Kd.R_elder' (nr_ HO_13.out) (Kd.R_base ho0) hb); replace HO_1011001 := kR_ HO_1011001 hb; replace HO1025 := kR_ HO1025 hb; replace BK990 := kb_ BK990 hb; replace BK1010 := kb_ BK1010 hb; replace HB := kB_ HB hb; (try clear hb); (try clear hb2); (try clear hk); (try clear hi); (try clear ho0); obtain ⟨Ao133, co133, eo133⟩ := Kd.R_slice HO1029.out; subst eo133) | ((with_reducible refine gate_callee (f := 32) rfl ?_); refine gl_ (some 71) Try.func32 #[.slice Ao42 t1011.length co42, .slice Ao133 t1027.length co133] ?_; (with_reducible refine (laws_eqIntS.calls kj20 _ _ t1011 _ _ t1027 false _ ?side1 ?side2 ?side3 ?side4 A56.out).mono ?_); (case side1 => exact nc_ (rR16 HO_11.out).2.2); (case side2 => exact (rR16 HO_11.out).2.1); (case side3 => exact nc_ (rR16 HO1029.out).2.2); (case side4 => exact (rR16 HO1029.out).2.1); rintro e w' ⟨rfl, ⟨nd, rfl⟩⟩; refine ⟨_, rfl, ?_⟩))
     go_ret
     exact ⟨nw_, ne_ HB.out⟩
    subst c57
    rw [if_pos rfl] at H
    replace H := Option.bind_eq_some_iff.mp H
    obtain ⟨t1031, A580, H⟩ := H
    try dsimp only at H
    have A58 := Aside0.mk A580
    clear A580
    replace H := Option.bind_eq_some_iff.mp H
    obtain ⟨t1034, A590, H⟩ := H
    try dsimp only at H
    have A59 := Aside0.mk A590
    clear A590
    by_cases c60 : t1034 = true
    rotate_left
    ·replace c60 := Bool.eq_false_iff.mpr c60
     subst c60
     have H1 : (some false) = some r := by rw [if_neg (show ¬ (false = true) by decide)] at H; exact H
     clear H
     have H := H1
     clear H1
     obtain rfl := Option.some.inj H
     try go_wp2
     replace HO_8 := Aside0.mk (rD16 HO_8.out)
     replace HO_11 := Aside0.mk (rD16 HO_11.out)
     replace HO_12 := Aside0.mk (rD16 HO_12.out)
     replace HO_13 := Aside0.mk (rD16 HO_13.out)
     replace HO_1011001 := Aside0.mk (rD16 HO_1011001.out)
     replace BK990 := Aside0.mk (blk_drew BK990.out)
     replace BK1010 := Aside0.mk (blk_drew BK1010.out)
     replace HB := Aside0.mk (below_drew1 HB.out)
     refine start_ (n := 5) (S := fun w' => w'.cell? ⟨gb1010, 0, none⟩ = some (.int .i64 t1006) ∧ w'.cell? ⟨gb1010, 1, none⟩ = some (.slice Ao38 t1007.length co38) ∧ w'.cell? ⟨gb990, 0, none⟩ = some (.int .i64 a0_0) ∧ w'.cell? ⟨gb990, 1, none⟩ = some (.slice A0_1 l0_1.length c0_1)) (ds := []) #[false, false, false, false, false] (by kernel_rfl) rfl rfl ⟨ct_ BK1010.out 0, ct_ BK1010.out 1, ct_ BK990.out 0, ct_ BK990.out 1⟩ (fun hHeld => ?_)
     generalize wc.drew = w120 at HO_8 HO_11 HO_12 HO_13 HO_1011001 BK990 BK1010 HB hHeld ⊢
     refine take_ (i := 0) (N := some 63) (v := ?_) (a' := ?_) #[true, false, false, false, false] rfl rfl (by kernel_rfl) (fun _ _ _ h => h) (Or.inl ⟨by rfl, ?_⟩) hHeld ?_ ?_
     rotate_left
     ·rintro w' ⟨s0, s1, s2, s3⟩
      go_simp
      with_reducible rfl
     rotate_left
     ·simp only [Act.put, List.setIfInBounds_toArray, List.set_cons_zero, List.set_cons_succ, i64_w, i32_w]
      rfl
     refine take_ (i := 1) (N := some 64) (v := ?_) (a' := ?_) #[true, true, false, false, false] rfl rfl (by kernel_rfl) (fun _ _ _ h => h) (Or.inl ⟨by rfl, ?_⟩) hHeld ?_ ?_
     rotate_left
     ·rintro w' ⟨s0, s1, s2, s3⟩
      go_simp
      with_reducible rfl
     rotate_left
     ·simp only [Act.put, List.setIfInBounds_toArray, List.set_cons_zero, List.set_cons_succ, i64_w, i32_w]
      rfl
     refine one_ (i := 2) (N := some 65) #[true, true, true, false, false] rfl rfl (by kernel_rfl) (by decide) (fun K hK => ?_)
     refine go_ Try.func21 #[.agg #[.int .i64 a0_0, .slice A0_1 l0_1.length c0_1]] ?_
     with_reducible refine (laws_toNet.calls kj20 a0_0 _ _ l0_1 t1022 t1023 _ ?side1 ?side2 A52.out).mono ?_
     (case side1 => exact nc_ (Kd.C_below HR0_1.out HB.out))
     (case side2 => exact HC0_1.out)
     rintro e w121 ⟨v1024, rfl, ho0, hb⟩
     refine ⟨_, rfl, ?_⟩
     replace HO_8 := kR_ HO_8 hb
     replace HO_11 := kR_ HO_11 hb
     replace HO_12 := kR_ HO_12 hb
     replace HO_13 := kR_ HO_13 hb
     have HO1025 := Aside0.mk (Kd.R_lower (Kd.R_new' ho0 (Kd.R_lt (nr_ HO_1011001.out))) (below_size (ne_ HB.out)))
     replace HO_1011001 := Aside0.mk (Kd.R_elder' (nr_ HO_1011001.out) (Kd.R_base ho0) hb)
     replace BK990 := kb_ BK990 hb
     replace BK1010 := kb_ BK1010 hb
     replace HB := kB_ HB hb
     (try clear hb)
     (try clear hb2)
     (try clear hk)
     (try clear hi)
     (try clear ho0)
     obtain ⟨Ao122, co122, eo122⟩ := Kd.R_slice HO1025.out
     (first | subst eo122 | (injection eo122 with f1_ f2_ f3_; have f4_ := f1_.symm; have f5_ := f3_.symm; clear f1_ f2_ f3_; subst f4_; subst f5_))
     refine hK.out _ _ ⟨ct_ BK1010.out 0, ct_ BK1010.out 1, ct_ BK990.out 0, ct_ BK990.out 1⟩ (fun hHeld => ?_)
     clear hK K
     refine nm1_ (some 65) ?_
     refine one_ (i := 3) (N := some 66) #[true, true, true, true, false] rfl rfl (by kernel_rfl) (by decide) (fun K hK => ?_)
     refine go_ Try.func23 #[.agg #[.int .i64 t1006, .slice Ao38 t1007.length co38], .agg #[.int .i64 t1022, .slice Ao122 t1023.length co122]] ?_
     with_reducible refine (laws_eqNet.calls kj20 t1006 _ _ t1007 t1022 _ _ t1023 true _ ?side1 ?side2 ?side3 ?side4 A53.out).mono ?_
     (case side1 => exact nc_ (rR16 HO_1011001.out).2.2)
     (case side2 => exact (rR16 HO_1011001.out).2.1)
     (case side3 => exact nc_ (rR16 HO1025.out).2.2)
     (case side4 => exact (rR16 HO1025.out).2.1)
     rintro e w123 ⟨rfl, hb⟩
     refine ⟨_, rfl, ?_⟩
     replace HO_8 := kR_ HO_8 hb
     replace HO_11 := kR_ HO_11 hb
     replace HO_12 := kR_ HO_12 hb
     replace HO_13 := kR_ HO_13 hb
     replace HO_1011001 := kR_ HO_1011001 hb
     replace HO1025 := kR_ HO1025 hb
     replace BK990 := kb_ BK990 hb
     replace BK1010 := kb_ BK1010 hb
     replace HB := kB_ HB hb
     (try clear hb)
     (try clear hb2)
     (try clear hk)
     (try clear hi)
     refine hK.out _ _ ⟨ct_ BK1010.out 0, ct_ BK1010.out 1, ct_ BK990.out 0, ct_ BK990.out 1⟩ (fun hHeld => ?_)
     clear hK K
     refine nm1_ (some 66) ?_
     refine pure_ (i := 4) (N := some 67) (v := ?_) (a' := ?_) #[true, true, true, true, true] rfl rfl (by kernel_rfl) (fun _ _ _ h => h) (Or.inl ⟨by rfl, ?_⟩) ?_ ?_
     rotate_left
     ·intro w'
      go_simp
      with_reducible rfl
     rotate_left
     ·simp only [Act.put, List.setIfInBounds_toArray, List.set_cons_zero, List.set_cons_succ, i64_w, i32_w]
      rfl
     refine done_ (by kernel_rfl) ?_
     try go_wp2_with (first | ((with_reducible refine gate_callee (f := 45) rfl ?_); refine gl_ (some 70) Try.func45 #[.slice A1 l1.length c1] ?_; (with_reducible refine (laws_toIntS.calls kj20 _ _ l1 t1027 _ ?side1 ?side2 A55.out).mono ?_); (case side1 => exact nc_ (Kd.C_below HR1.out HB.out)); (case side2 => exact HC1.out); rintro e w124 ⟨v1028, rfl, ho0, hb⟩; refine ⟨_, rfl, ?_⟩; have HO1029 := Aside0.mk (Kd.R_lower (Kd.R_new' (Kd.R_new' (Kd.R_new' (Kd.R_new' ho0 (Kd.R_lt (nr_ HO_8.out))) (Kd.R_lt (nr_ HO_11.out))) (Kd.R_lt (nr_ HO_12.out))) (Kd.R_lt (nr_ HO_13.out))) (below_size (ne_ HB.out))); replace HO_8 := Aside0.mk (Kd.R_elder' (nr_ HO_8.out) (Kd.R_base ho0) hb); replace HO_11 := Aside0.mk (Kd.R_elder' (nr_ HO_11.out) (Kd.R_base ho0) hb); replace HO_12 := Aside0.mk (Kd.R_elder' (nr_ HO_12.out) (Kd.R_base ho0) hb); replace HO_13 := Aside0.mk (Kd.R_elder' (nr_ HO_13.out) (Kd.R_base ho0) hb); replace HO_1011001 := kR_ HO_1011001 hb; replace HO1025 := kR_ HO1025 hb; replace BK990 := kb_ BK990 hb; replace BK1010 := kb_ BK1010 hb; replace HB := kB_ HB hb; (try clear hb); (try clear hb2); (try clear hk); (try clear hi); (try clear ho0); obtain ⟨Ao125, co125, eo125⟩ := Kd.R_slice HO1029.out; subst eo125) | ((with_reducible refine gate_callee (f := 32) rfl ?_); refine gl_ (some 71) Try.func32 #[.slice Ao42 t1011.length co42, .slice Ao125 t1027.length co125] ?_; (with_reducible refine (laws_eqIntS.calls kj20 _ _ t1011 _ _ t1027 true _ ?side1 ?side2 ?side3 ?side4 A56.out).mono ?_); (case side1 => exact nc_ (rR16 HO_11.out).2.2); (case side2 => exact (rR16 HO_11.out).2.1); (case side3 => exact nc_ (rR16 HO1029.out).2.2); (case side4 => exact (rR16 HO1029.out).2.1); rintro e w' ⟨rfl, ⟨nd, rfl⟩⟩; refine ⟨_, rfl, ?_⟩) | ((with_reducible refine gate_callee (f := 45) rfl ?_); refine gl_ (some 75) Try.func45 #[.slice A2 l2.length c2] ?_; (with_reducible refine (laws_toIntS.calls kj20 _ _ l2 t1031 _ ?side1 ?side2 A58.out).mono ?_); (case side1 => exact nc_ (Kd.C_below HR2.out (ne_ HB.out))); (case side2 => exact HC2.out); rintro e w126 ⟨v1032, rfl, ho0, hb⟩; refine ⟨_, rfl, ?_⟩; have HO1033 := Aside0.mk (Kd.R_lower (Kd.R_new' (Kd.R_new' (Kd.R_new' (Kd.R_new' (Kd.R_new' ho0 (Kd.R_lt (nr_ HO_8.out))) (Kd.R_lt (nr_ HO_11.out))) (Kd.R_lt (nr_ HO_12.out))) (Kd.R_lt (nr_ HO_13.out))) (Kd.R_lt (nr_ HO1029.out))) (below_size (ne_ HB.out))); replace HO_8 := Aside0.mk (Kd.R_elder' (nr_ HO_8.out) (Kd.R_base ho0) hb); replace HO_11 := Aside0.mk (Kd.R_elder' (nr_ HO_11.out) (Kd.R_base ho0) hb); replace HO_12 := Aside0.mk (Kd.R_elder' (nr_ HO_12.out) (Kd.R_base ho0) hb); replace HO_13 := Aside0.mk (Kd.R_elder' (nr_ HO_13.out) (Kd.R_base ho0) hb); replace HO_1011001 := kR_ HO_1011001 hb; replace HO1025 := kR_ HO1025 hb; replace HO1029 := Aside0.mk (Kd.R_elder' (nr_ HO1029.out) (Kd.R_base ho0) hb); replace BK990 := kb_ BK990 hb; replace BK1010 := kb_ BK1010 hb; replace HB := kB_ HB hb; (try clear hb); (try clear hb2); (try clear hk); (try clear hi); (try clear ho0); obtain ⟨Ao127, co127, eo127⟩ := Kd.R_slice HO1033.out; subst eo127) | ((with_reducible refine gate_callee (f := 32) rfl ?_); refine gl_ (some 76) Try.func32 #[.slice Ao43 t1014.length co43, .slice Ao127 t1031.length co127] ?_; (with_reducible refine (laws_eqIntS.calls kj20 _ _ t1014 _ _ t1031 false _ ?side1 ?side2 ?side3 ?side4 A59.out).mono ?_); (case side1 => exact nc_ (rR16 HO_12.out).2.2); (case side2 => exact (rR16 HO_12.out).2.1); (case side3 => exact nc_ (rR16 HO1033.out).2.2); (case side4 => exact (rR16 HO1033.out).2.1); rintro e w' ⟨rfl, ⟨nd, rfl⟩⟩; refine ⟨_, rfl, ?_⟩))
     go_ret
     exact ⟨nw_, ne_ HB.out⟩
    subst c60
    rw [if_pos rfl] at H
    replace H := Option.bind_eq_some_iff.mp H
    obtain ⟨⟨t1035, t1036⟩, A610, H⟩ := H
    try dsimp only at H
    have A61 := Aside0.mk A610
    clear A610
    replace H := Option.bind_eq_some_iff.mp H
    obtain ⟨⟨t1037, t1038⟩, A620, H⟩ := H
    try dsimp only at H
    have A62 := Aside0.mk A620
    clear A620
    replace H := Option.bind_eq_some_iff.mp H
    obtain ⟨⟨t1039, t1040⟩, A630, H⟩ := H
    try dsimp only at H
    have A63 := Aside0.mk A630
    clear A630
    have HC64 := Aside0.mk H
    clear H
    try go_wp2
    replace HO_8 := Aside0.mk (rD16 HO_8.out)
    replace HO_11 := Aside0.mk (rD16 HO_11.out)
    replace HO_12 := Aside0.mk (rD16 HO_12.out)
    replace HO_13 := Aside0.mk (rD16 HO_13.out)
    replace HO_1011001 := Aside0.mk (rD16 HO_1011001.out)
    replace BK990 := Aside0.mk (blk_drew BK990.out)
    replace BK1010 := Aside0.mk (blk_drew BK1010.out)
    replace HB := Aside0.mk (below_drew1 HB.out)
    refine start_ (n := 5) (S := fun w' => w'.cell? ⟨gb1010, 0, none⟩ = some (.int .i64 t1006) ∧ w'.cell? ⟨gb1010, 1, none⟩ = some (.slice Ao38 t1007.length co38) ∧ w'.cell? ⟨gb990, 0, none⟩ = some (.int .i64 a0_0) ∧ w'.cell? ⟨gb990, 1, none⟩ = some (.slice A0_1 l0_1.length c0_1)) (ds := []) #[false, false, false, false, false] (by kernel_rfl) rfl rfl ⟨ct_ BK1010.out 0, ct_ BK1010.out 1, ct_ BK990.out 0, ct_ BK990.out 1⟩ (fun hHeld => ?_)
    generalize wc.drew = w65 at HO_8 HO_11 HO_12 HO_13 HO_1011001 BK990 BK1010 HB hHeld ⊢
    refine take_ (i := 0) (N := some 63) (v := ?_) (a' := ?_) #[true, false, false, false, false] rfl rfl (by kernel_rfl) (fun _ _ _ h => h) (Or.inl ⟨by rfl, ?_⟩) hHeld ?_ ?_
    rotate_left
    ·rintro w' ⟨s0, s1, s2, s3⟩
     go_simp
     with_reducible rfl
    rotate_left
    ·simp only [Act.put, List.setIfInBounds_toArray, List.set_cons_zero, List.set_cons_succ, i64_w, i32_w]
     rfl
    refine take_ (i := 1) (N := some 64) (v := ?_) (a' := ?_) #[true, true, false, false, false] rfl rfl (by kernel_rfl) (fun _ _ _ h => h) (Or.inl ⟨by rfl, ?_⟩) hHeld ?_ ?_
    rotate_left
    ·rintro w' ⟨s0, s1, s2, s3⟩
     go_simp
     with_reducible rfl
    rotate_left
    ·simp only [Act.put, List.setIfInBounds_toArray, List.set_cons_zero, List.set_cons_succ, i64_w, i32_w]
     rfl
    refine one_ (i := 2) (N := some 65) #[true, true, true, false, false] rfl rfl (by kernel_rfl) (by decide) (fun K hK => ?_)
    refine go_ Try.func21 #[.agg #[.int .i64 a0_0, .slice A0_1 l0_1.length c0_1]] ?_
    with_reducible refine (laws_toNet.calls kj20 a0_0 _ _ l0_1 t1022 t1023 _ ?side1 ?side2 A52.out).mono ?_
    (case side1 => exact nc_ (Kd.C_below HR0_1.out HB.out))
    (case side2 => exact HC0_1.out)
    rintro e w66 ⟨v1024, rfl, ho0, hb⟩
    refine ⟨_, rfl, ?_⟩
    replace HO_8 := kR_ HO_8 hb
    replace HO_11 := kR_ HO_11 hb
    replace HO_12 := kR_ HO_12 hb
    replace HO_13 := kR_ HO_13 hb
    have HO1025 := Aside0.mk (Kd.R_lower (Kd.R_new' ho0 (Kd.R_lt (nr_ HO_1011001.out))) (below_size (ne_ HB.out)))
    replace HO_1011001 := Aside0.mk (Kd.R_elder' (nr_ HO_1011001.out) (Kd.R_base ho0) hb)
    replace BK990 := kb_ BK990 hb
    replace BK1010 := kb_ BK1010 hb
    replace HB := kB_ HB hb
    (try clear hb)
    (try clear hb2)
    (try clear hk)
    (try clear hi)
    (try clear ho0)
    obtain ⟨Ao67, co67, eo67⟩ := Kd.R_slice HO1025.out
    (first | subst eo67 | (injection eo67 with f1_ f2_ f3_; have f4_ := f1_.symm; have f5_ := f3_.symm; clear f1_ f2_ f3_; subst f4_; subst f5_))
    refine hK.out _ _ ⟨ct_ BK1010.out 0, ct_ BK1010.out 1, ct_ BK990.out 0, ct_ BK990.out 1⟩ (fun hHeld => ?_)
    clear hK K
    refine nm1_ (some 65) ?_
    refine one_ (i := 3) (N := some 66) #[true, true, true, true, false] rfl rfl (by kernel_rfl) (by decide) (fun K hK => ?_)
    refine go_ Try.func23 #[.agg #[.int .i64 t1006, .slice Ao38 t1007.length co38], .agg #[.int .i64 t1022, .slice Ao67 t1023.length co67]] ?_
    with_reducible refine (laws_eqNet.calls kj20 t1006 _ _ t1007 t1022 _ _ t1023 true _ ?side1 ?side2 ?side3 ?side4 A53.out).mono ?_
    (case side1 => exact nc_ (rR16 HO_1011001.out).2.2)
    (case side2 => exact (rR16 HO_1011001.out).2.1)
    (case side3 => exact nc_ (rR16 HO1025.out).2.2)
    (case side4 => exact (rR16 HO1025.out).2.1)
    rintro e w68 ⟨rfl, hb⟩
    refine ⟨_, rfl, ?_⟩
    replace HO_8 := kR_ HO_8 hb
    replace HO_11 := kR_ HO_11 hb
    replace HO_12 := kR_ HO_12 hb
    replace HO_13 := kR_ HO_13 hb
    replace HO_1011001 := kR_ HO_1011001 hb
    replace HO1025 := kR_ HO1025 hb
    replace BK990 := kb_ BK990 hb
    replace BK1010 := kb_ BK1010 hb
    replace HB := kB_ HB hb
    (try clear hb)
    (try clear hb2)
    (try clear hk)
    (try clear hi)
    refine hK.out _ _ ⟨ct_ BK1010.out 0, ct_ BK1010.out 1, ct_ BK990.out 0, ct_ BK990.out 1⟩ (fun hHeld => ?_)
    clear hK K
    refine nm1_ (some 66) ?_
    refine pure_ (i := 4) (N := some 67) (v := ?_) (a' := ?_) #[true, true, true, true, true] rfl rfl (by kernel_rfl) (fun _ _ _ h => h) (Or.inl ⟨by rfl, ?_⟩) ?_ ?_
    rotate_left
    ·intro w'
     go_simp
     with_reducible rfl
    rotate_left
    ·simp only [Act.put, List.setIfInBounds_toArray, List.set_cons_zero, List.set_cons_succ, i64_w, i32_w]
     rfl
    refine done_ (by kernel_rfl) ?_
    go_upto_region 26 with (first | ((with_reducible refine gate_callee (f := 45) rfl ?_); refine gl_ (some 70) Try.func45 #[.slice A1 l1.length c1] ?_; (with_reducible refine (laws_toIntS.calls kj20 _ _ l1 t1027 _ ?side1 ?side2 A55.out).mono ?_); (case side1 => exact nc_ (Kd.C_below HR1.out HB.out)); (case side2 => exact HC1.out); rintro e w69 ⟨v1028, rfl, ho0, hb⟩; refine ⟨_, rfl, ?_⟩; have HO1029 := Aside0.mk (Kd.R_lower (Kd.R_new' (Kd.R_new' (Kd.R_new' (Kd.R_new' ho0 (Kd.R_lt (nr_ HO_8.out))) (Kd.R_lt (nr_ HO_11.out))) (Kd.R_lt (nr_ HO_12.out))) (Kd.R_lt (nr_ HO_13.out))) (below_size (ne_ HB.out))); replace HO_8 := Aside0.mk (Kd.R_elder' (nr_ HO_8.out) (Kd.R_base ho0) hb); replace HO_11 := Aside0.mk (Kd.R_elder' (nr_ HO_11.out) (Kd.R_base ho0) hb); replace HO_12 := Aside0.mk (Kd.R_elder' (nr_ HO_12.out) (Kd.R_base ho0) hb); replace HO_13 := Aside0.mk (Kd.R_elder' (nr_ HO_13.out) (Kd.R_base ho0) hb); replace HO_1011001 := kR_ HO_1011001 hb; replace HO1025 := kR_ HO1025 hb; replace BK990 := kb_ BK990 hb; replace BK1010 := kb_ BK1010 hb; replace HB := kB_ HB hb; (try clear hb); (try clear hb2); (try clear hk); (try clear hi); (try clear ho0); obtain ⟨Ao70, co70, eo70⟩ := Kd.R_slice HO1029.out; subst eo70) | ((with_reducible refine gate_callee (f := 32) rfl ?_); refine gl_ (some 71) Try.func32 #[.slice Ao42 t1011.length co42, .slice Ao70 t1027.length co70] ?_; (with_reducible refine (laws_eqIntS.calls kj20 _ _ t1011 _ _ t1027 true _ ?side1 ?side2 ?side3 ?side4 A56.out).mono ?_); (case side1 => exact nc_ (rR16 HO_11.out).2.2); (case side2 => exact (rR16 HO_11.out).2.1); (case side3 => exact nc_ (rR16 HO1029.out).2.2); (case side4 => exact (rR16 HO1029.out).2.1); rintro e w' ⟨rfl, ⟨nd, rfl⟩⟩; refine ⟨_, rfl, ?_⟩) | ((with_reducible refine gate_callee (f := 45) rfl ?_); refine gl_ (some 75) Try.func45 #[.slice A2 l2.length c2] ?_; (with_reducible refine (laws_toIntS.calls kj20 _ _ l2 t1031 _ ?side1 ?side2 A58.out).mono ?_); (case side1 => exact nc_ (Kd.C_below HR2.out (ne_ HB.out))); (case side2 => exact HC2.out); rintro e w71 ⟨v1032, rfl, ho0, hb⟩; refine ⟨_, rfl, ?_⟩; have HO1033 := Aside0.mk (Kd.R_lower (Kd.R_new' (Kd.R_new' (Kd.R_new' (Kd.R_new' (Kd.R_new' ho0 (Kd.R_lt (nr_ HO_8.out))) (Kd.R_lt (nr_ HO_11.out))) (Kd.R_lt (nr_ HO_12.out))) (Kd.R_lt (nr_ HO_13.out))) (Kd.R_lt (nr_ HO1029.out))) (below_size (ne_ HB.out))); replace HO_8 := Aside0.mk (Kd.R_elder' (nr_ HO_8.out) (Kd.R_base ho0) hb); replace HO_11 := Aside0.mk (Kd.R_elder' (nr_ HO_11.out) (Kd.R_base ho0) hb); replace HO_12 := Aside0.mk (Kd.R_elder' (nr_ HO_12.out) (Kd.R_base ho0) hb); replace HO_13 := Aside0.mk (Kd.R_elder' (nr_ HO_13.out) (Kd.R_base ho0) hb); replace HO_1011001 := kR_ HO_1011001 hb; replace HO1025 := kR_ HO1025 hb; replace HO1029 := Aside0.mk (Kd.R_elder' (nr_ HO1029.out) (Kd.R_base ho0) hb); replace BK990 := kb_ BK990 hb; replace BK1010 := kb_ BK1010 hb; replace HB := kB_ HB hb; (try clear hb); (try clear hb2); (try clear hk); (try clear hi); (try clear ho0); obtain ⟨Ao72, co72, eo72⟩ := Kd.R_slice HO1033.out; subst eo72) | ((with_reducible refine gate_callee (f := 32) rfl ?_); refine gl_ (some 76) Try.func32 #[.slice Ao43 t1014.length co43, .slice Ao72 t1031.length co72] ?_; (with_reducible refine (laws_eqIntS.calls kj20 _ _ t1014 _ _ t1031 true _ ?side1 ?side2 ?side3 ?side4 A59.out).mono ?_); (case side1 => exact nc_ (rR16 HO_12.out).2.2); (case side2 => exact (rR16 HO_12.out).2.1); (case side3 => exact nc_ (rR16 HO1033.out).2.2); (case side4 => exact (rR16 HO1033.out).2.1); rintro e w' ⟨rfl, ⟨nd, rfl⟩⟩; refine ⟨_, rfl, ?_⟩; have hnb73 := NB1010_990.out; have hnc73 := NB990_1010.out; obtain ⟨hcz74_0, hcz74_1, hfz74_0, hfz74_1⟩ := cz2_ BK1010.out) | ((with_reducible refine gate_callee (f := 33) rfl ?_); refine gl_ (some 80) Try.func33 #[.agg #[.int .i64 t1006, .slice Ao38 t1007.length co38], .int .i64 1] ?_; (with_reducible refine (laws_markNet.calls kj20 t1006 (fun k_ => some k_ = (.slice Ao38 t1007.length co38 : Value).ownBlock) (.slice Ao38 t1007.length co38) t1007 1 t1035 t1036 w _ ?side1 ?side2 A61.out).mono ?_); (case side1 => exact (ne_ HB.out)); (case side2 => exact Kd.R_tight rfl HO_1011001.out); rintro e w75 ⟨rfl, hy0, hb, hkp⟩; refine ⟨_, rfl, ?_⟩; replace HO_8 := Aside0.mk (Kd.R_mono (ok' := fun k_ => some k_ ≠ (.slice Ao42 t1011.length co42 : Value).ownBlock ∧ some k_ ≠ (.slice Ao43 t1014.length co43 : Value).ownBlock ∧ some k_ ≠ (v1018 : Value).ownBlock ∧ some k_ ≠ (.slice Ao70 t1027.length co70 : Value).ownBlock ∧ some k_ ≠ (.slice Ao72 t1031.length co72 : Value).ownBlock) (Kd.R_keptB ((Kd.R_apart' HO_8.out (Kd.R_typed HO_1011001.out) (by decide))) hkp (fun k_ hk_ hs_ => (hk_.2) hs_)) (fun k_ hk_ => ⟨hk_.1.1.1.1.1, hk_.1.1.1.1.2.1, hk_.1.1.1.1.2.2, hk_.1.1.1.2, hk_.1.1.2⟩)); replace HO_11 := Aside0.mk (Kd.R_mono (ok' := fun k_ => some k_ ≠ (v1003 : Value).ownBlock ∧ some k_ ≠ (.slice Ao43 t1014.length co43 : Value).ownBlock ∧ some k_ ≠ (v1018 : Value).ownBlock ∧ some k_ ≠ (.slice Ao70 t1027.length co70 : Value).ownBlock ∧ some k_ ≠ (.slice Ao72 t1031.length co72 : Value).ownBlock) (Kd.R_keptB ((Kd.R_apart' HO_11.out (Kd.R_typed HO_1011001.out) (by decide))) hkp (fun k_ hk_ hs_ => (hk_.2) hs_)) (fun k_ hk_ => ⟨hk_.1.1.1.1.1, hk_.1.1.1.1.2.1, hk_.1.1.1.1.2.2, hk_.1.1.1.2, hk_.1.1.2⟩)); replace HO_12 := Aside0.mk (Kd.R_mono (ok' := fun k_ => some k_ ≠ (v1003 : Value).ownBlock ∧ some k_ ≠ (.slice Ao42 t1011.length co42 : Value).ownBlock ∧ some k_ ≠ (v1018 : Value).ownBlock ∧ some k_ ≠ (.slice Ao70 t1027.length co70 : Value).ownBlock ∧ some k_ ≠ (.slice Ao72 t1031.length co72 : Value).ownBlock) (Kd.R_keptB ((Kd.R_apart' HO_12.out (Kd.R_typed HO_1011001.out) (by decide))) hkp (fun k_ hk_ hs_ => (hk_.2) hs_)) (fun k_ hk_ => ⟨hk_.1.1.1.1.1, hk_.1.1.1.1.2.1, hk_.1.1.1.1.2.2, hk_.1.1.1.2, hk_.1.1.2⟩)); replace HO_13 := Aside0.mk (Kd.R_mono (ok' := fun k_ => some k_ ≠ (v1003 : Value).ownBlock ∧ some k_ ≠ (.slice Ao42 t1011.length co42 : Value).ownBlock ∧ some k_ ≠ (.slice Ao43 t1014.length co43 : Value).ownBlock ∧ some k_ ≠ (.slice Ao70 t1027.length co70 : Value).ownBlock ∧ some k_ ≠ (.slice Ao72 t1031.length co72 : Value).ownBlock) (Kd.R_keptB ((Kd.R_apart' HO_13.out (Kd.R_typed HO_1011001.out) (by decide))) hkp (fun k_ hk_ hs_ => (hk_.2) hs_)) (fun k_ hk_ => ⟨hk_.1.1.1.1.1, hk_.1.1.1.1.2.1, hk_.1.1.1.1.2.2, hk_.1.1.1.2, hk_.1.1.2⟩)); replace BK990 := Aside0.mk (blk_kept (g := gb990) (o := .cells #[.int .i64 a0_0, .slice A0_1 l0_1.length c0_1] 24 (0, 0)) (nb_ BK990.out) hkp (fun hs_ => (fun e_ => (Kd.R_ne HO_1011001.out BK990.out (by decide)) e_) hs_)); replace BK1010 := Aside0.mk (blk_kept (g := gb1010) (o := .cells #[.int .i64 t1006, .slice Ao38 t1007.length co38] 29 (0, 0)) (nb_ BK1010.out) hkp (fun hs_ => (fun e_ => (Kd.R_ne HO_1011001.out BK1010.out (by decide)) e_) hs_)); replace HO1025 := Aside0.mk (Kd.R_mono (ok' := fun k_ => some k_ ≠ (.slice Ao38 t1007.length co38 : Value).ownBlock) (Kd.R_keptB (HO1025.out) hkp (fun k_ hk_ hs_ => (hk_.2) hs_)) (fun k_ hk_ => hk_.1.2)); replace HO1029 := Aside0.mk (Kd.R_mono (ok' := fun k_ => some k_ ≠ (v1003 : Value).ownBlock ∧ some k_ ≠ (.slice Ao42 t1011.length co42 : Value).ownBlock ∧ some k_ ≠ (.slice Ao43 t1014.length co43 : Value).ownBlock ∧ some k_ ≠ (v1018 : Value).ownBlock ∧ some k_ ≠ (.slice Ao72 t1031.length co72 : Value).ownBlock) (Kd.R_keptB ((Kd.R_apart' HO1029.out (Kd.R_typed HO_1011001.out) (by decide))) hkp (fun k_ hk_ hs_ => (hk_.2) hs_)) (fun k_ hk_ => ⟨hk_.1.1.1.1.1.1.2, hk_.1.1.1.1.1.2, hk_.1.1.1.1.2, hk_.1.1.1.2, hk_.1.1.2⟩)); replace HO1033 := Aside0.mk (Kd.R_mono (ok' := fun k_ => some k_ ≠ (v1003 : Value).ownBlock ∧ some k_ ≠ (.slice Ao42 t1011.length co42 : Value).ownBlock ∧ some k_ ≠ (.slice Ao43 t1014.length co43 : Value).ownBlock ∧ some k_ ≠ (v1018 : Value).ownBlock ∧ some k_ ≠ (.slice Ao70 t1027.length co70 : Value).ownBlock) (Kd.R_keptB ((Kd.R_apart' HO1033.out (Kd.R_typed HO_1011001.out) (by decide))) hkp (fun k_ hk_ hs_ => (hk_.2) hs_)) (fun k_ hk_ => ⟨hk_.1.1.1.1.1.1.2, hk_.1.1.1.1.1.2, hk_.1.1.1.1.2, hk_.1.1.1.2, hk_.1.1.2⟩)); replace HO_1011001 := Aside0.mk (Kd.R_reok rfl hy0 (fun k_ e_ => HO_1011001.out.1 k_ e_)); replace HB := Aside0.mk (hb); (try clear hb); (try clear hkp); (try clear hy0)) | ((with_reducible refine gate_callee (f := 34) rfl ?_); refine gl_ (some 83) Try.func34 #[.slice Ao42 t1011.length co42, .int .i64 t1035] ?_; (with_reducible refine (laws_markIntS.calls kj20 (fun k_ => some k_ = (.slice Ao42 t1011.length co42 : Value).ownBlock) (.slice Ao42 t1011.length co42) t1011 t1035 t1037 t1038 w _ ?side1 ?side2 A62.out).mono ?_); (case side1 => exact (ne_ HB.out)); (case side2 => exact Kd.R_tight rfl HO_11.out); rintro e w76 ⟨rfl, hy0, hb, hkp⟩; refine ⟨_, rfl, ?_⟩; replace HO_8 := Aside0.mk (Kd.R_mono (ok' := fun k_ => some k_ ≠ (.slice Ao42 t1011.length co42 : Value).ownBlock ∧ some k_ ≠ (.slice Ao43 t1014.length co43 : Value).ownBlock ∧ some k_ ≠ (v1018 : Value).ownBlock ∧ some k_ ≠ (.slice Ao70 t1027.length co70 : Value).ownBlock ∧ some k_ ≠ (.slice Ao72 t1031.length co72 : Value).ownBlock) (Kd.R_keptB (HO_8.out) hkp (fun k_ hk_ hs_ => (hk_.1) hs_)) (fun k_ hk_ => ⟨hk_.1.1, hk_.1.2.1, hk_.1.2.2.1, hk_.1.2.2.2.1, hk_.1.2.2.2.2⟩)); replace HO_12 := Aside0.mk (Kd.R_mono (ok' := fun k_ => some k_ ≠ (v1003 : Value).ownBlock ∧ some k_ ≠ (.slice Ao42 t1011.length co42 : Value).ownBlock ∧ some k_ ≠ (v1018 : Value).ownBlock ∧ some k_ ≠ (.slice Ao70 t1027.length co70 : Value).ownBlock ∧ some k_ ≠ (.slice Ao72 t1031.length co72 : Value).ownBlock) (Kd.R_keptB (HO_12.out) hkp (fun k_ hk_ hs_ => (hk_.2.1) hs_)) (fun k_ hk_ => ⟨hk_.1.1, hk_.1.2.1, hk_.1.2.2.1, hk_.1.2.2.2.1, hk_.1.2.2.2.2⟩)); replace HO_13 := Aside0.mk (Kd.R_mono (ok' := fun k_ => some k_ ≠ (v1003 : Value).ownBlock ∧ some k_ ≠ (.slice Ao42 t1011.length co42 : Value).ownBlock ∧ some k_ ≠ (.slice Ao43 t1014.length co43 : Value).ownBlock ∧ some k_ ≠ (.slice Ao70 t1027.length co70 : Value).ownBlock ∧ some k_ ≠ (.slice Ao72 t1031.length co72 : Value).ownBlock) (Kd.R_keptB (HO_13.out) hkp (fun k_ hk_ hs_ => (hk_.2.1) hs_)) (fun k_ hk_ => ⟨hk_.1.1, hk_.1.2.1, hk_.1.2.2.1, hk_.1.2.2.2.1, hk_.1.2.2.2.2⟩)); replace HO_1011001 := Aside0.mk (Kd.R_mono (ok' := fun k_ => some k_ ≠ (.slice Ao67 t1023.length co67 : Value).ownBlock) (Kd.R_keptB ((Kd.R_apart' HO_1011001.out (Kd.R_typed HO_11.out) (by decide))) hkp (fun k_ hk_ hs_ => (hk_.2) hs_)) (fun k_ hk_ => hk_.1.1.2)); replace BK990 := Aside0.mk (blk_kept (g := gb990) (o := .cells #[.int .i64 a0_0, .slice A0_1 l0_1.length c0_1] 24 (0, 0)) (nb_ BK990.out) hkp (fun hs_ => (fun e_ => (Kd.R_ne HO_11.out BK990.out (by decide)) e_) hs_)); replace BK1010 := Aside0.mk (blk_kept (g := gb1010) (o := .cells #[.int .i64 t1006, .slice Ao38 t1007.length co38] 29 (0, 0)) (nb_ BK1010.out) hkp (fun hs_ => (fun e_ => (Kd.R_ne HO_11.out BK1010.out (by decide)) e_) hs_)); replace HO1025 := Aside0.mk (Kd.R_mono (ok' := fun k_ => some k_ ≠ (.slice Ao38 t1007.length co38 : Value).ownBlock) (Kd.R_keptB ((Kd.R_apart' HO1025.out (Kd.R_typed HO_11.out) (by decide))) hkp (fun k_ hk_ hs_ => (hk_.2) hs_)) (fun k_ hk_ => hk_.1.1)); replace HO_11 := Aside0.mk (Kd.R_reok rfl hy0 (fun k_ e_ => HO_11.out.1 k_ e_)); replace HO1029 := Aside0.mk (Kd.R_mono (ok' := fun k_ => some k_ ≠ (v1003 : Value).ownBlock ∧ some k_ ≠ (.slice Ao42 t1011.length co42 : Value).ownBlock ∧ some k_ ≠ (.slice Ao43 t1014.length co43 : Value).ownBlock ∧ some k_ ≠ (v1018 : Value).ownBlock ∧ some k_ ≠ (.slice Ao72 t1031.length co72 : Value).ownBlock) (Kd.R_keptB (HO1029.out) hkp (fun k_ hk_ hs_ => (hk_.2.1) hs_)) (fun k_ hk_ => ⟨hk_.1.1, hk_.1.2.1, hk_.1.2.2.1, hk_.1.2.2.2.1, hk_.1.2.2.2.2⟩)); replace HO1033 := Aside0.mk (Kd.R_mono (ok' := fun k_ => some k_ ≠ (v1003 : Value).ownBlock ∧ some k_ ≠ (.slice Ao42 t1011.length co42 : Value).ownBlock ∧ some k_ ≠ (.slice Ao43 t1014.length co43 : Value).ownBlock ∧ some k_ ≠ (v1018 : Value).ownBlock ∧ some k_ ≠ (.slice Ao70 t1027.length co70 : Value).ownBlock) (Kd.R_keptB (HO1033.out) hkp (fun k_ hk_ hs_ => (hk_.2.1) hs_)) (fun k_ hk_ => ⟨hk_.1.1, hk_.1.2.1, hk_.1.2.2.1, hk_.1.2.2.2.1, hk_.1.2.2.2.2⟩)); replace HB := Aside0.mk (hb); (try clear hb); (try clear hkp); (try clear hy0)) | ((with_reducible refine gate_callee (f := 34) rfl ?_); refine gl_ (some 86) Try.func34 #[.slice Ao43 t1014.length co43, .int .i64 t1037] ?_; (with_reducible refine (laws_markIntS.calls kj20 (fun k_ => some k_ = (.slice Ao43 t1014.length co43 : Value).ownBlock) (.slice Ao43 t1014.length co43) t1014 t1037 t1039 t1040 w _ ?side1 ?side2 A63.out).mono ?_); (case side1 => exact (ne_ HB.out)); (case side2 => exact Kd.R_tight rfl HO_12.out); rintro e w77 ⟨rfl, hy0, hb, hkp⟩; refine ⟨_, rfl, ?_⟩; replace HO_8 := Aside0.mk (Kd.R_mono (ok' := fun k_ => some k_ ≠ (.slice Ao42 t1011.length co42 : Value).ownBlock ∧ some k_ ≠ (.slice Ao43 t1014.length co43 : Value).ownBlock ∧ some k_ ≠ (v1018 : Value).ownBlock ∧ some k_ ≠ (.slice Ao70 t1027.length co70 : Value).ownBlock ∧ some k_ ≠ (.slice Ao72 t1031.length co72 : Value).ownBlock) (Kd.R_keptB (HO_8.out) hkp (fun k_ hk_ hs_ => (hk_.2.1) hs_)) (fun k_ hk_ => ⟨hk_.1.1, hk_.1.2.1, hk_.1.2.2.1, hk_.1.2.2.2.1, hk_.1.2.2.2.2⟩)); replace HO_11 := Aside0.mk (Kd.R_mono (ok' := fun k_ => some k_ ≠ (v1003 : Value).ownBlock ∧ some k_ ≠ (.slice Ao43 t1014.length co43 : Value).ownBlock ∧ some k_ ≠ (v1018 : Value).ownBlock ∧ some k_ ≠ (.slice Ao70 t1027.length co70 : Value).ownBlock ∧ some k_ ≠ (.slice Ao72 t1031.length co72 : Value).ownBlock) (Kd.R_keptB (HO_11.out) hkp (fun k_ hk_ hs_ => (hk_.2.1) hs_)) (fun k_ hk_ => ⟨hk_.1.1, hk_.1.2.1, hk_.1.2.2.1, hk_.1.2.2.2.1, hk_.1.2.2.2.2⟩)); replace HO_13 := Aside0.mk (Kd.R_mono (ok' := fun k_ => some k_ ≠ (v1003 : Value).ownBlock ∧ some k_ ≠ (.slice Ao42 t1011.length co42 : Value).ownBlock ∧ some k_ ≠ (.slice Ao43 t1014.length co43 : Value).ownBlock ∧ some k_ ≠ (.slice Ao70 t1027.length co70 : Value).ownBlock ∧ some k_ ≠ (.slice Ao72 t1031.length co72 : Value).ownBlock) (Kd.R_keptB (HO_13.out) hkp (fun k_ hk_ hs_ => (hk_.2.2.1) hs_)) (fun k_ hk_ => ⟨hk_.1.1, hk_.1.2.1, hk_.1.2.2.1, hk_.1.2.2.2.1, hk_.1.2.2.2.2⟩)); replace HO_1011001 := Aside0.mk (Kd.R_mono (ok' := fun k_ => some k_ ≠ (.slice Ao67 t1023.length co67 : Value).ownBlock) (Kd.R_keptB ((Kd.R_apart' HO_1011001.out (Kd.R_typed HO_12.out) (by decide))) hkp (fun k_ hk_ hs_ => (hk_.2) hs_)) (fun k_ hk_ => hk_.1.1)); replace BK990 := Aside0.mk (blk_kept (g := gb990) (o := .cells #[.int .i64 a0_0, .slice A0_1 l0_1.length c0_1] 24 (0, 0)) (nb_ BK990.out) hkp (fun hs_ => (fun e_ => (Kd.R_ne HO_12.out BK990.out (by decide)) e_) hs_)); replace BK1010 := Aside0.mk (blk_kept (g := gb1010) (o := .cells #[.int .i64 t1006, .slice Ao38 t1007.length co38] 29 (0, 0)) (nb_ BK1010.out) hkp (fun hs_ => (fun e_ => (Kd.R_ne HO_12.out BK1010.out (by decide)) e_) hs_)); replace HO1025 := Aside0.mk (Kd.R_mono (ok' := fun k_ => some k_ ≠ (.slice Ao38 t1007.length co38 : Value).ownBlock) (Kd.R_keptB ((Kd.R_apart' HO1025.out (Kd.R_typed HO_12.out) (by decide))) hkp (fun k_ hk_ hs_ => (hk_.2) hs_)) (fun k_ hk_ => hk_.1.1)); replace HO_12 := Aside0.mk (Kd.R_reok rfl hy0 (fun k_ e_ => HO_12.out.1 k_ e_)); replace HO1029 := Aside0.mk (Kd.R_mono (ok' := fun k_ => some k_ ≠ (v1003 : Value).ownBlock ∧ some k_ ≠ (.slice Ao42 t1011.length co42 : Value).ownBlock ∧ some k_ ≠ (.slice Ao43 t1014.length co43 : Value).ownBlock ∧ some k_ ≠ (v1018 : Value).ownBlock ∧ some k_ ≠ (.slice Ao72 t1031.length co72 : Value).ownBlock) (Kd.R_keptB (HO1029.out) hkp (fun k_ hk_ hs_ => (hk_.2.2.1) hs_)) (fun k_ hk_ => ⟨hk_.1.1, hk_.1.2.1, hk_.1.2.2.1, hk_.1.2.2.2.1, hk_.1.2.2.2.2⟩)); replace HO1033 := Aside0.mk (Kd.R_mono (ok' := fun k_ => some k_ ≠ (v1003 : Value).ownBlock ∧ some k_ ≠ (.slice Ao42 t1011.length co42 : Value).ownBlock ∧ some k_ ≠ (.slice Ao43 t1014.length co43 : Value).ownBlock ∧ some k_ ≠ (v1018 : Value).ownBlock ∧ some k_ ≠ (.slice Ao70 t1027.length co70 : Value).ownBlock) (Kd.R_keptB (HO1033.out) hkp (fun k_ hk_ hs_ => (hk_.2.2.1) hs_)) (fun k_ hk_ => ⟨hk_.1.1, hk_.1.2.1, hk_.1.2.2.1, hk_.1.2.2.2.1, hk_.1.2.2.2.2⟩)); replace HB := Aside0.mk (hb); (try clear hb); (try clear hkp); (try clear hy0)))
    (try simp only [Act.put, List.setIfInBounds_toArray, List.set_cons_zero, List.set_cons_succ])
    go_cut [99] (fun v99 wc => ∃ (kq : Nat) (x99_63 : Bool), v99 = .bool x99_63 ∧ Aside0 (laws_FnExactWalkJoin.j1 kq l1 l2 t1002 t1005 t1017 x99_63 a0_0 l0_1 = some r) ∧ Aside0 (kq ≤ kj20) ∧ Aside0 (Kd.R (Kd.int .i64) 3 wc w.heap.size (fun k_ => some k_ ≠ (v1018 : Value).ownBlock) v1003 t1002) ∧ Aside0 (Kd.R (Kd.int .i64) 3 wc w.heap.size (fun k_ => some k_ ≠ (v1003 : Value).ownBlock) v1018 t1017) ∧ Aside0 (Kd.R k37 37 wc w.heap.size (fun _ => True) (.slice Ao38 t1007.length co38) t1036) ∧ Aside0 (wc.heap[gb990]? = some (.cells #[.int .i64 a0_0, (.slice A0_1 l0_1.length c0_1)] 24 (0, 0))) ∧ Aside0 (wc.heap[gb1010]? = some (.cells #[.int .i64 t1006, (.slice Ao38 t1007.length co38)] 29 (0, 0))) ∧ Aside0 (Below w.heap.size w wc))
    case first =>
     have H := HC64.out
     clear HC64
     by_cases c78 : t1039 < 0
     ·rw [if_pos c78] at H
      have c78b0 : decide (t1039 < 0) = true := decide_eq_true c78
      clear c78
      (first | rw [c78b0] | (simp only [i64_w, i32_w]; rw [c78b0]) | skip)
      have H' := Aside0.mk H
      clear H
      go_wp2
      go_meet
      case rel => exact ⟨_, (true), ns_, H', ⟨by have := HJ20.out; first | omega | exact Nat.le_refl _⟩, ⟨by (with_reducible repeat (first | apply Kd.R_alloc | apply Kd.R_drewN | apply rD16)); exact Kd.R_mono HO_8.out (fun _ hk => by first | exact hk.2.2.1 | trivial | simp_all)⟩, ⟨by (with_reducible repeat (first | apply Kd.R_alloc | apply Kd.R_drewN | apply rD16)); exact Kd.R_mono HO_13.out (fun _ hk => hk.1)⟩, ⟨by (with_reducible repeat (first | apply Kd.R_alloc | apply Kd.R_drewN | apply rD16)); exact Kd.R_mono HO_1011001.out (fun _ hk => trivial)⟩, ⟨nb_ BK990.out⟩, ⟨nb_ BK1010.out⟩, ⟨ne_ HB.out⟩⟩
     rw [if_neg c78] at H
     have c78b0 : decide (t1039 < 0) = false := decide_eq_false c78
     clear c78
     (first | rw [c78b0] | (simp only [i64_w, i32_w]; rw [c78b0]) | skip)
     replace H := Option.bind_eq_some_iff.mp H
     obtain ⟨t1041, A790, H⟩ := H
     try dsimp only at H
     have A79 := Aside0.mk A790
     clear A790
     by_cases c80 : t1041 = true
     ·subst c80
      rw [if_pos rfl] at H
      have H' := Aside0.mk H
      clear H
      obtain ⟨Ao81, co81, eo81⟩ := Kd.R_slice HO_13.out
      subst eo81
      obtain ⟨Ao82, co82, eo82⟩ := Kd.R_slice HO_8.out
      subst eo82
      go_wp2_with (first | (go_at_call 32; (with_reducible refine (laws_eqIntS.calls kj20 _ _ t1017 _ _ t1002 true _ ?side1 ?side2 ?side3 ?side4 A79.out).mono ?_); (case side1 => exact nc_ (rR16 HO_13.out).2.2); (case side2 => exact (rR16 HO_13.out).2.1); (case side3 => exact nc_ (rR16 HO_8.out).2.2); (case side4 => exact (rR16 HO_8.out).2.1); rintro e w' ⟨rfl, ⟨nd, rfl⟩⟩))
      go_meet
      case rel => exact ⟨_, ((t1020 != t1005)), ns_, H', ⟨by have := HJ20.out; first | omega | exact Nat.le_refl _⟩, ⟨by (with_reducible repeat (first | apply Kd.R_alloc | apply Kd.R_drewN | apply rD16)); exact Kd.R_mono HO_8.out (fun _ hk => by first | exact hk.2.2.1 | trivial | simp_all)⟩, ⟨by (with_reducible repeat (first | apply Kd.R_alloc | apply Kd.R_drewN | apply rD16)); exact Kd.R_mono HO_13.out (fun _ hk => hk.1)⟩, ⟨by (with_reducible repeat (first | apply Kd.R_alloc | apply Kd.R_drewN | apply rD16)); exact Kd.R_mono HO_1011001.out (fun _ hk => trivial)⟩, ⟨nb_ BK990.out⟩, ⟨nb_ BK1010.out⟩, ⟨ne_ HB.out⟩⟩
     replace c80 := Bool.eq_false_iff.mpr c80
     subst c80
     have H1 : (laws_FnExactWalkJoin.j1 kj20 l1 l2 t1002 t1005 t1017 true a0_0 l0_1) = some r := by rw [if_neg (show ¬ (false = true) by decide)] at H; exact H
     clear H
     have H := H1
     clear H1
     have H' := Aside0.mk H
     clear H
     obtain ⟨Ao83, co83, eo83⟩ := Kd.R_slice HO_13.out
     subst eo83
     obtain ⟨Ao84, co84, eo84⟩ := Kd.R_slice HO_8.out
     subst eo84
     go_wp2_with (first | (go_at_call 32; (with_reducible refine (laws_eqIntS.calls kj20 _ _ t1017 _ _ t1002 false _ ?side1 ?side2 ?side3 ?side4 A79.out).mono ?_); (case side1 => exact nc_ (rR16 HO_13.out).2.2); (case side2 => exact (rR16 HO_13.out).2.1); (case side3 => exact nc_ (rR16 HO_8.out).2.2); (case side4 => exact (rR16 HO_8.out).2.1); rintro e w' ⟨rfl, ⟨nd, rfl⟩⟩))
     go_meet
     case rel => exact ⟨_, (true), ns_, H', ⟨by have := HJ20.out; first | omega | exact Nat.le_refl _⟩, ⟨by (with_reducible repeat (first | apply Kd.R_alloc | apply Kd.R_drewN | apply rD16)); exact Kd.R_mono HO_8.out (fun _ hk => by first | exact hk.2.2.1 | trivial | simp_all)⟩, ⟨by (with_reducible repeat (first | apply Kd.R_alloc | apply Kd.R_drewN | apply rD16)); exact Kd.R_mono HO_13.out (fun _ hk => hk.1)⟩, ⟨by (with_reducible repeat (first | apply Kd.R_alloc | apply Kd.R_drewN | apply rD16)); exact Kd.R_mono HO_1011001.out (fun _ hk => trivial)⟩, ⟨nb_ BK990.out⟩, ⟨nb_ BK1010.out⟩, ⟨ne_ HB.out⟩⟩
    case rest =>
     clear HC64
     try clear c1
     try clear c2
     try clear c4
     try clear c4b0
     try clear c4b1
     try clear c6
     try clear c6b0
     try clear c6b1
     try clear c9
     try clear c9b0
     try clear c51
     try clear c54
     try clear c57
     try clear c60
     try clear hcz23_0
     try clear hcz23_1
     try clear hcz25_0
     try clear hcz25_1
     try clear hcz33_0
     try clear hcz33_1
     try clear hcz37_0
     try clear hcz37_1
     try clear hcz41_0
     try clear hcz41_1
     try clear hcz74_0
     try clear hcz74_1
     try clear hfz23_0
     try clear hfz23_1
     try clear hfz25_0
     try clear hfz25_1
     try clear hfz33_0
     try clear hfz33_1
     try clear hfz37_0
     try clear hfz37_1
     try clear hfz41_0
     try clear hfz41_1
     try clear hfz74_0
     try clear hfz74_1
     obtain ⟨kq, x99_63, rfl, HA, HJ63, HO_8, HO_13, HO_1011001, BK990, BK1010, HB⟩ := hcut
     have hl1011001_63 := (rR16 HO_1011001.out).1
     rw [hl1011001_63] at HO_1011001
     (try simp only [hl1011001_63])
     (try simp only [hl1011001_63] at BK990)
     (try simp only [hl1011001_63] at BK1010)
     (try simp only [hl1011001_63] at HO_8)
     (try simp only [hl1011001_63] at HO_13)
     cases kq with
     | zero => exact absurd HA.out (by simp [laws_FnExactWalkJoin.j1])
     | succ kj63 =>
      have H := HA.out
      clear HA
      simp only [laws_FnExactWalkJoin.j1] at H
      by_cases c85 : x99_63 = true
      ·subst c85
       have H1 : (some false) = some r := by rw [if_pos rfl] at H; exact H
       clear H
       have H := H1
       clear H1
       obtain rfl := Option.some.inj H
       go_wp2
       go_ret
       exact ⟨nw_, ne_ HB.out⟩
      replace c85 := Bool.eq_false_iff.mpr c85
      subst c85
      have H1 : ((laws_markIntS.f kj63 t1017 1).bind fun bt1042 => ((laws_heldIntS.f kj63 bt1042.2 1).bind fun t1044 => (if t1044 < 0 then (some false) else (if t1044 = bt1042.1 then ((laws_toNet.f kj63 a0_0 l0_1).bind fun bt1045 => ((laws_toIntS.f kj63 l1).bind fun t1049 => ((laws_toIntS.f kj63 l2).bind fun t1052 => ((impl_WalkJoin.f kj63 bt1045.1 bt1045.2 t1049 t1052).bind fun bt1055 => ((laws_eqIntS.f kj63 bt1055.1 t1002).bind fun t1059 => (if t1059 = true then (laws_FnExactWalkJoin.j2 kj63 bt1042.2 bt1042.1 (bt1055.2 != t1005)) else (laws_FnExactWalkJoin.j2 kj63 bt1042.2 bt1042.1 true))))))) else (some false))))) = some r := by rw [if_neg (show ¬ (false = true) by decide)] at H; exact H
      clear H
      have H := H1
      clear H1
      replace H := Option.bind_eq_some_iff.mp H
      obtain ⟨⟨t1042, t1043⟩, A860, H⟩ := H
      try dsimp only at H
      have A86 := Aside0.mk A860
      clear A860
      replace H := Option.bind_eq_some_iff.mp H
      obtain ⟨t1044, A870, H⟩ := H
      try dsimp only at H
      have A87 := Aside0.mk A870
      clear A870
      by_cases c88 : t1044 < 0
      ·rw [if_pos c88] at H
       have c88b0 : decide (t1044 < 0) = true := decide_eq_true c88
       clear c88
       obtain rfl := Option.some.inj H
       obtain ⟨Ao89, co89, eo89⟩ := Kd.R_slice HO_13.out
       subst eo89
       go_wp2_with (first | ((with_reducible refine gate_callee (f := 34) rfl ?_); refine gl_ (some 102) Try.func34 #[.slice Ao89 t1017.length co89, .int .i64 1] ?_; (with_reducible refine (laws_markIntS.calls kj63 (fun k_ => some k_ = (.slice Ao89 t1017.length co89 : Value).ownBlock) (.slice Ao89 t1017.length co89) t1017 1 t1042 t1043 w _ ?side1 ?side2 A86.out).mono ?_); (case side1 => exact (ne_ HB.out)); (case side2 => exact Kd.R_tight rfl HO_13.out); rintro e w90 ⟨rfl, hy0, hb, hkp⟩; refine ⟨_, rfl, ?_⟩; replace HO_8 := Aside0.mk (Kd.R_mono (ok' := fun k_ => some k_ ≠ (.slice Ao89 t1017.length co89 : Value).ownBlock) (Kd.R_keptB (HO_8.out) hkp (fun k_ hk_ hs_ => (hk_) hs_)) (fun k_ hk_ => hk_.1)); replace HO_1011001 := Aside0.mk (Kd.R_mono (ok' := fun k_ => True) (Kd.R_keptB ((Kd.R_apart' HO_1011001.out (Kd.R_typed HO_13.out) (by decide))) hkp (fun k_ hk_ hs_ => (hk_.2) hs_)) (fun k_ hk_ => trivial)); replace BK990 := Aside0.mk (blk_kept (g := gb990) (o := .cells #[.int .i64 a0_0, .slice A0_1 l0_1.length c0_1] 24 (0, 0)) (nb_ BK990.out) hkp (fun hs_ => (fun e_ => (Kd.R_ne HO_13.out BK990.out (by decide)) e_) hs_)); replace BK1010 := Aside0.mk (blk_kept (g := gb1010) (o := .cells #[.int .i64 t1006, .slice Ao38 t1036.length co38] 29 (0, 0)) (nb_ BK1010.out) hkp (fun hs_ => (fun e_ => (Kd.R_ne HO_13.out BK1010.out (by decide)) e_) hs_)); replace HO_13 := Aside0.mk (Kd.R_reok rfl hy0 (fun k_ e_ => HO_13.out.1 k_ e_)); replace HB := Aside0.mk (hb); (try clear hb); (try clear hkp); (try clear hy0)) | ((with_reducible refine gate_callee (f := 35) rfl ?_); refine goesL_ (some 105) rfl rfl Try.func35 (by kernel_rfl) rfl #[.slice Ao89 t1043.length co89, .int .i64 1] rfl (by (try simp only [List.map_toArray, List.map_cons, List.map_nil]); first | done | (rw [show t1043.length = t1017.length from (rR16 HO_13.out).1.symm] <;> rfl) | rfl | (simp only [List.length_drop, List.length_take]; rfl)) ?_; (with_reducible refine (laws_heldIntS.calls kj63 _ _ t1043 1 t1044 _ ?side1 ?side2 A87.out).mono ?_); (case side1 => exact nc_ (rR16 HO_13.out).2.2); (case side2 => rw [show t1043.length = t1017.length from (rR16 HO_13.out).1.symm]; exact (rR16 HO_13.out).2.1); rintro e w' ⟨rfl, ⟨nd, rfl⟩⟩; refine ⟨_, rfl, ?_⟩))
       go_ret
       exact ⟨nw_, ne_ HB.out⟩
      rw [if_neg c88] at H
      have c88b0 : decide (t1044 < 0) = false := decide_eq_false c88
      clear c88
      by_cases c91 : t1044 = t1042
      rotate_left
      ·rw [if_neg c91] at H
       have c91b0 : (t1044 == t1042) = false := beq_eq_false_iff_ne.mpr c91
       have c91b1 : (t1044 != t1042) = true := bne_iff_ne.mpr c91
       obtain rfl := Option.some.inj H
       obtain ⟨Ao118, co118, eo118⟩ := Kd.R_slice HO_13.out
       subst eo118
       go_wp2_with (first | ((with_reducible refine gate_callee (f := 34) rfl ?_); refine gl_ (some 102) Try.func34 #[.slice Ao118 t1017.length co118, .int .i64 1] ?_; (with_reducible refine (laws_markIntS.calls kj63 (fun k_ => some k_ = (.slice Ao118 t1017.length co118 : Value).ownBlock) (.slice Ao118 t1017.length co118) t1017 1 t1042 t1043 w _ ?side1 ?side2 A86.out).mono ?_); (case side1 => exact (ne_ HB.out)); (case side2 => exact Kd.R_tight rfl HO_13.out); rintro e w119 ⟨rfl, hy0, hb, hkp⟩; refine ⟨_, rfl, ?_⟩; replace HO_8 := Aside0.mk (Kd.R_mono (ok' := fun k_ => some k_ ≠ (.slice Ao118 t1017.length co118 : Value).ownBlock) (Kd.R_keptB (HO_8.out) hkp (fun k_ hk_ hs_ => (hk_) hs_)) (fun k_ hk_ => hk_.1)); replace HO_1011001 := Aside0.mk (Kd.R_mono (ok' := fun k_ => True) (Kd.R_keptB ((Kd.R_apart' HO_1011001.out (Kd.R_typed HO_13.out) (by decide))) hkp (fun k_ hk_ hs_ => (hk_.2) hs_)) (fun k_ hk_ => trivial)); replace BK990 := Aside0.mk (blk_kept (g := gb990) (o := .cells #[.int .i64 a0_0, .slice A0_1 l0_1.length c0_1] 24 (0, 0)) (nb_ BK990.out) hkp (fun hs_ => (fun e_ => (Kd.R_ne HO_13.out BK990.out (by decide)) e_) hs_)); replace BK1010 := Aside0.mk (blk_kept (g := gb1010) (o := .cells #[.int .i64 t1006, .slice Ao38 t1036.length co38] 29 (0, 0)) (nb_ BK1010.out) hkp (fun hs_ => (fun e_ => (Kd.R_ne HO_13.out BK1010.out (by decide)) e_) hs_)); replace HO_13 := Aside0.mk (Kd.R_reok rfl hy0 (fun k_ e_ => HO_13.out.1 k_ e_)); replace HB := Aside0.mk (hb); (try clear hb); (try clear hkp); (try clear hy0)) | ((with_reducible refine gate_callee (f := 35) rfl ?_); refine goesL_ (some 105) rfl rfl Try.func35 (by kernel_rfl) rfl #[.slice Ao118 t1043.length co118, .int .i64 1] rfl (by (try simp only [List.map_toArray, List.map_cons, List.map_nil]); first | done | (rw [show t1043.length = t1017.length from (rR16 HO_13.out).1.symm] <;> rfl) | rfl | (simp only [List.length_drop, List.length_take]; rfl)) ?_; (with_reducible refine (laws_heldIntS.calls kj63 _ _ t1043 1 t1044 _ ?side1 ?side2 A87.out).mono ?_); (case side1 => exact nc_ (rR16 HO_13.out).2.2); (case side2 => rw [show t1043.length = t1017.length from (rR16 HO_13.out).1.symm]; exact (rR16 HO_13.out).2.1); rintro e w' ⟨rfl, ⟨nd, rfl⟩⟩; refine ⟨_, rfl, ?_⟩))
       go_ret
       exact ⟨nw_, ne_ HB.out⟩
      rw [if_pos c91] at H
      have c91b0 : (t1044 == t1042) = true := beq_iff_eq.mpr c91
      have c91b1 : (t1044 != t1042) = false := bne_eq_false_iff_eq.mpr c91
      clear c91
      replace H := Option.bind_eq_some_iff.mp H
      obtain ⟨⟨t1045, t1046⟩, A920, H⟩ := H
      try dsimp only at H
      have A92 := Aside0.mk A920
      clear A920
      replace H := Option.bind_eq_some_iff.mp H
      obtain ⟨t1049, A930, H⟩ := H
      try dsimp only at H
      have A93 := Aside0.mk A930
      clear A930
      replace H := Option.bind_eq_some_iff.mp H
      obtain ⟨t1052, A940, H⟩ := H
      try dsimp only at H
      have A94 := Aside0.mk A940
      clear A940
      replace H := Option.bind_eq_some_iff.mp H
      obtain ⟨⟨t1055, t1058⟩, A950, H⟩ := H
      try dsimp only at H
      have A95 := Aside0.mk A950
      clear A950
      have HC96 := Aside0.mk H
      clear H
      obtain ⟨Ao97, co97, eo97⟩ := Kd.R_slice HO_13.out
      subst eo97
      go_upto_region 37 with (first | ((with_reducible refine gate_callee (f := 34) rfl ?_); refine gl_ (some 102) Try.func34 #[.slice Ao97 t1017.length co97, .int .i64 1] ?_; (with_reducible refine (laws_markIntS.calls kj63 (fun k_ => some k_ = (.slice Ao97 t1017.length co97 : Value).ownBlock) (.slice Ao97 t1017.length co97) t1017 1 t1042 t1043 w _ ?side1 ?side2 A86.out).mono ?_); (case side1 => exact (ne_ HB.out)); (case side2 => exact Kd.R_tight rfl HO_13.out); rintro e w98 ⟨rfl, hy0, hb, hkp⟩; refine ⟨_, rfl, ?_⟩; replace HO_8 := Aside0.mk (Kd.R_mono (ok' := fun k_ => some k_ ≠ (.slice Ao97 t1017.length co97 : Value).ownBlock) (Kd.R_keptB (HO_8.out) hkp (fun k_ hk_ hs_ => (hk_) hs_)) (fun k_ hk_ => hk_.1)); replace HO_1011001 := Aside0.mk (Kd.R_mono (ok' := fun k_ => True) (Kd.R_keptB ((Kd.R_apart' HO_1011001.out (Kd.R_typed HO_13.out) (by decide))) hkp (fun k_ hk_ hs_ => (hk_.2) hs_)) (fun k_ hk_ => trivial)); replace BK990 := Aside0.mk (blk_kept (g := gb990) (o := .cells #[.int .i64 a0_0, .slice A0_1 l0_1.length c0_1] 24 (0, 0)) (nb_ BK990.out) hkp (fun hs_ => (fun e_ => (Kd.R_ne HO_13.out BK990.out (by decide)) e_) hs_)); replace BK1010 := Aside0.mk (blk_kept (g := gb1010) (o := .cells #[.int .i64 t1006, .slice Ao38 t1036.length co38] 29 (0, 0)) (nb_ BK1010.out) hkp (fun hs_ => (fun e_ => (Kd.R_ne HO_13.out BK1010.out (by decide)) e_) hs_)); replace HO_13 := Aside0.mk (Kd.R_reok rfl hy0 (fun k_ e_ => HO_13.out.1 k_ e_)); replace HB := Aside0.mk (hb); (try clear hb); (try clear hkp); (try clear hy0)) | ((with_reducible refine gate_callee (f := 35) rfl ?_); refine goesL_ (some 105) rfl rfl Try.func35 (by kernel_rfl) rfl #[.slice Ao97 t1043.length co97, .int .i64 1] rfl (by (try simp only [List.map_toArray, List.map_cons, List.map_nil]); first | done | (rw [show t1043.length = t1017.length from (rR16 HO_13.out).1.symm] <;> rfl) | rfl | (simp only [List.length_drop, List.length_take]; rfl)) ?_; (with_reducible refine (laws_heldIntS.calls kj63 _ _ t1043 1 t1044 _ ?side1 ?side2 A87.out).mono ?_); (case side1 => exact nc_ (rR16 HO_13.out).2.2); (case side2 => rw [show t1043.length = t1017.length from (rR16 HO_13.out).1.symm]; exact (rR16 HO_13.out).2.1); rintro e w' ⟨rfl, ⟨nd, rfl⟩⟩; refine ⟨_, rfl, ?_⟩; have hnb99 := NB990_1010.out; have hnc99 := NB1010_990.out; obtain ⟨hcz100_0, hcz100_1, hfz100_0, hfz100_1⟩ := cz2_ BK990.out) | ((with_reducible refine gate_callee (f := 21) rfl ?_); refine gl_ (some 113) Try.func21 #[.agg #[.int .i64 a0_0, .slice A0_1 l0_1.length c0_1]] ?_; (with_reducible refine (laws_toNet.calls kj63 a0_0 _ _ l0_1 t1045 t1046 _ ?side1 ?side2 A92.out).mono ?_); (case side1 => exact nc_ (Kd.C_below HR0_1.out (ne_ HB.out))); (case side2 => exact HC0_1.out); rintro e w101 ⟨v1047, rfl, ho0, hb⟩; refine ⟨_, rfl, ?_⟩; have HO1048 := Aside0.mk (Kd.R_lower (Kd.R_new' ho0 (Kd.R_lt (nr_ HO_1011001.out))) (below_size (ne_ HB.out))); replace HO_8 := kR_ HO_8 hb; replace HO_13 := kR_ HO_13 hb; replace HO_1011001 := Aside0.mk (Kd.R_elder' (nr_ HO_1011001.out) (Kd.R_base ho0) hb); replace BK990 := kb_ BK990 hb; replace BK1010 := kb_ BK1010 hb; replace HB := kB_ HB hb; (try clear hb); (try clear hb2); (try clear hk); (try clear hi); (try clear ho0)) | ((with_reducible refine gate_callee (f := 45) rfl ?_); refine gl_ (some 115) Try.func45 #[.slice A1 l1.length c1] ?_; (with_reducible refine (laws_toIntS.calls kj63 _ _ l1 t1049 _ ?side1 ?side2 A93.out).mono ?_); (case side1 => exact nc_ (Kd.C_below HR1.out HB.out)); (case side2 => exact HC1.out); rintro e w102 ⟨v1050, rfl, ho0, hb⟩; refine ⟨_, rfl, ?_⟩; have HO1051 := Aside0.mk (Kd.R_lower (Kd.R_new' (Kd.R_new' ho0 (Kd.R_lt (nr_ HO_8.out))) (Kd.R_lt (nr_ HO_13.out))) (below_size (ne_ HB.out))); replace HO_8 := Aside0.mk (Kd.R_elder' (nr_ HO_8.out) (Kd.R_base ho0) hb); replace HO_13 := Aside0.mk (Kd.R_elder' (nr_ HO_13.out) (Kd.R_base ho0) hb); replace HO_1011001 := kR_ HO_1011001 hb; replace HO1048 := kR_ HO1048 hb; replace BK990 := kb_ BK990 hb; replace BK1010 := kb_ BK1010 hb; replace HB := kB_ HB hb; (try clear hb); (try clear hb2); (try clear hk); (try clear hi); (try clear ho0)) | ((with_reducible refine gate_callee (f := 45) rfl ?_); refine gl_ (some 117) Try.func45 #[.slice A2 l2.length c2] ?_; (with_reducible refine (laws_toIntS.calls kj63 _ _ l2 t1052 _ ?side1 ?side2 A94.out).mono ?_); (case side1 => exact nc_ (Kd.C_below HR2.out HB.out)); (case side2 => exact HC2.out); rintro e w103 ⟨v1053, rfl, ho0, hb⟩; refine ⟨_, rfl, ?_⟩; have HO1054 := Aside0.mk (Kd.R_lower (Kd.R_new' (Kd.R_new' (Kd.R_new' ho0 (Kd.R_lt (nr_ HO_8.out))) (Kd.R_lt (nr_ HO_13.out))) (Kd.R_lt (nr_ HO1051.out))) (below_size (ne_ HB.out))); replace HO_8 := Aside0.mk (Kd.R_elder' (nr_ HO_8.out) (Kd.R_base ho0) hb); replace HO_13 := Aside0.mk (Kd.R_elder' (nr_ HO_13.out) (Kd.R_base ho0) hb); replace HO_1011001 := kR_ HO_1011001 hb; replace HO1048 := kR_ HO1048 hb; replace HO1051 := Aside0.mk (Kd.R_elder' (nr_ HO1051.out) (Kd.R_base ho0) hb); replace BK990 := kb_ BK990 hb; replace BK1010 := kb_ BK1010 hb; replace HB := kB_ HB hb; (try clear hb); (try clear hb2); (try clear hk); (try clear hi); (try clear ho0); obtain ⟨Ao104, co104, eo104⟩ := Kd.R_slice HO1048.out; subst eo104; obtain ⟨Ao105, co105, eo105⟩ := Kd.R_slice HO1051.out; subst eo105; obtain ⟨Ao106, co106, eo106⟩ := Kd.R_slice HO1054.out; subst eo106) | ((with_reducible refine gate_callee (f := 53) rfl ?_); refine gl_ (some 118) Try.func53 #[.agg #[.int .i64 t1045, .slice Ao104 t1046.length co104], .slice Ao105 t1049.length co105, .slice Ao106 t1052.length co106] ?_; (with_reducible refine (impl_WalkJoin.calls kj63 t1045 _ _ t1046 (fun k_ => some k_ = (.slice Ao105 t1049.length co105 : Value).ownBlock) _ _ t1049 (fun k_ => some k_ = (.slice Ao106 t1052.length co106 : Value).ownBlock) _ _ t1052 t1055 t1058 _ ?side1 ?side2 ?side3 ?side4 A95.out).mono ?_); (case side1 => exact nc_ (rR16 HO1048.out).2.2); (case side2 => exact (rR16 HO1048.out).2.1); (case side3 => exact Kd.R_V (Kd.R_tight rfl (Kd.R_types (Kd.R_types (Kd.R_apart' (Kd.R_apart' (HO1051.out) (Kd.R_typed HO_1011001.out) (by decide)) (Kd.R_typed HO1048.out) (by decide)) BK990.out (by decide)) BK1010.out (by decide)))); (case side4 => exact Kd.R_V (Kd.R_tight rfl (Kd.R_types (Kd.R_types (Kd.R_apart' (Kd.R_apart' (HO1054.out) (Kd.R_typed HO_1011001.out) (by decide)) (Kd.R_typed HO1048.out) (by decide)) BK990.out (by decide)) BK1010.out (by decide)))); rintro e w107 ⟨v1056, rfl, ho0, hb⟩; refine ⟨_, rfl, ?_⟩; have HO1057 := Aside0.mk (Kd.R_lower (Kd.R_new' (Kd.R_new' (Kd.R_new' (Kd.R_new' (Kd.R_mono (ok' := fun k_ => True) ho0 (fun _ hk_ => trivial)) (Kd.R_lt (nr_ HO_8.out))) (Kd.R_lt (nr_ HO_13.out))) (Kd.R_lt (nr_ HO1051.out))) (Kd.R_lt (nr_ HO1054.out))) (below_size (ne_ HB.out))); replace HO_8 := Aside0.mk (Kd.R_elder' (nr_ HO_8.out) (Kd.R_base ho0) hb); replace HO_13 := Aside0.mk (Kd.R_elder' (nr_ HO_13.out) (Kd.R_base ho0) hb); replace HO_1011001 := kR_ HO_1011001 hb; replace HO1048 := kR_ HO1048 hb; replace HO1051 := Aside0.mk (Kd.R_elder' (nr_ HO1051.out) (Kd.R_base ho0) hb); replace HO1054 := Aside0.mk (Kd.R_elder' (nr_ HO1054.out) (Kd.R_base ho0) hb); replace BK990 := kb_ BK990 hb; replace BK1010 := kb_ BK1010 hb; replace HB := kB_ HB hb; (try clear hb); (try clear hb2); (try clear hk); (try clear hi); (try clear ho0)))
      (try simp only [Act.put, List.setIfInBounds_toArray, List.set_cons_zero, List.set_cons_succ])
      go_cut [129] (fun v129 wc => ∃ (kq : Nat) (x129_95 : Bool), v129 = .bool x129_95 ∧ Aside0 (laws_FnExactWalkJoin.j2 kq t1043 t1042 x129_95 = some r) ∧ Aside0 (kq ≤ kj63) ∧ Aside0 (Kd.R (Kd.int .i64) 3 wc w.heap.size (fun _ => True) (.slice Ao97 t1017.length co97) t1043) ∧ Aside0 (Kd.R k37 37 wc w.heap.size (fun _ => True) (.slice Ao38 t1036.length co38) t1036) ∧ Aside0 (wc.heap[gb990]? = some (.cells #[.int .i64 a0_0, (.slice A0_1 l0_1.length c0_1)] 24 (0, 0))) ∧ Aside0 (wc.heap[gb1010]? = some (.cells #[.int .i64 t1006, (.slice Ao38 t1036.length co38)] 29 (0, 0))) ∧ Aside0 (Below w.heap.size w wc))
      case first =>
       have H := HC96.out
       clear HC96
       replace H := Option.bind_eq_some_iff.mp H
       obtain ⟨t1059, A1080, H⟩ := H
       try dsimp only at H
       have A108 := Aside0.mk A1080
       clear A1080
       by_cases c109 : t1059 = true
       ·subst c109
        have H1 : (laws_FnExactWalkJoin.j2 kj63 t1043 t1042 (t1058 != t1005)) = some r := by rw [if_pos rfl] at H; exact H
        clear H
        have H := H1
        clear H1
        have H' := Aside0.mk H
        clear H
        obtain ⟨Ao110, co110, eo110⟩ := Kd.R_slice HO1057.out
        subst eo110
        obtain ⟨Ao111, co111, eo111⟩ := Kd.R_slice HO_8.out
        subst eo111
        go_wp2_with (first | ((with_reducible refine gate_callee (f := 32) rfl ?_); refine gl_ (some 123) Try.func32 #[.slice Ao110 t1055.length co110, .slice Ao111 t1002.length co111] ?_; (with_reducible refine (laws_eqIntS.calls kj63 _ _ t1055 _ _ t1002 true _ ?side1 ?side2 ?side3 ?side4 A108.out).mono ?_); (case side1 => exact nc_ (rR16 HO1057.out).2.2); (case side2 => exact (rR16 HO1057.out).2.1); (case side3 => exact nc_ (rR16 HO_8.out).2.2); (case side4 => exact (rR16 HO_8.out).2.1); rintro e w' ⟨rfl, ⟨nd, rfl⟩⟩; refine ⟨_, rfl, ?_⟩))
        go_meet
        case rel => exact ⟨_, ((t1058 != t1005)), ns_, H', ⟨by have := HJ20.out; have := HJ63.out; first | omega | exact Nat.le_refl _⟩, ⟨by (try simp only [hl1011001_63]); (with_reducible repeat (first | apply Kd.R_alloc | apply Kd.R_drewN | apply rD16)); exact Kd.R_mono HO_13.out (fun _ hk => trivial)⟩, ⟨by (try simp only [hl1011001_63]); (with_reducible repeat (first | apply Kd.R_alloc | apply Kd.R_drewN | apply rD16)); exact Kd.R_mono HO_1011001.out (fun _ hk => trivial)⟩, ⟨by (try simp only [hl1011001_63]); (with_reducible repeat (first | refine blk_drewN ?_ _ | refine blk_drew ?_ | refine blk_alloc ?_ _)); exact BK990.out⟩, ⟨by (try simp only [hl1011001_63]); (with_reducible repeat (first | refine blk_drewN ?_ _ | refine blk_drew ?_ | refine blk_alloc ?_ _)); exact BK1010.out⟩, ⟨ne_ HB.out⟩⟩
       replace c109 := Bool.eq_false_iff.mpr c109
       subst c109
       have H1 : (laws_FnExactWalkJoin.j2 kj63 t1043 t1042 true) = some r := by rw [if_neg (show ¬ (false = true) by decide)] at H; exact H
       clear H
       have H := H1
       clear H1
       have H' := Aside0.mk H
       clear H
       obtain ⟨Ao112, co112, eo112⟩ := Kd.R_slice HO1057.out
       subst eo112
       obtain ⟨Ao113, co113, eo113⟩ := Kd.R_slice HO_8.out
       subst eo113
       go_wp2_with (first | ((with_reducible refine gate_callee (f := 32) rfl ?_); refine gl_ (some 123) Try.func32 #[.slice Ao112 t1055.length co112, .slice Ao113 t1002.length co113] ?_; (with_reducible refine (laws_eqIntS.calls kj63 _ _ t1055 _ _ t1002 false _ ?side1 ?side2 ?side3 ?side4 A108.out).mono ?_); (case side1 => exact nc_ (rR16 HO1057.out).2.2); (case side2 => exact (rR16 HO1057.out).2.1); (case side3 => exact nc_ (rR16 HO_8.out).2.2); (case side4 => exact (rR16 HO_8.out).2.1); rintro e w' ⟨rfl, ⟨nd, rfl⟩⟩; refine ⟨_, rfl, ?_⟩))
       go_meet
       case rel => exact ⟨_, (true), ns_, H', ⟨by have := HJ20.out; have := HJ63.out; first | omega | exact Nat.le_refl _⟩, ⟨by (try simp only [hl1011001_63]); (with_reducible repeat (first | apply Kd.R_alloc | apply Kd.R_drewN | apply rD16)); exact Kd.R_mono HO_13.out (fun _ hk => trivial)⟩, ⟨by (try simp only [hl1011001_63]); (with_reducible repeat (first | apply Kd.R_alloc | apply Kd.R_drewN | apply rD16)); exact Kd.R_mono HO_1011001.out (fun _ hk => trivial)⟩, ⟨by (try simp only [hl1011001_63]); (with_reducible repeat (first | refine blk_drewN ?_ _ | refine blk_drew ?_ | refine blk_alloc ?_ _)); exact BK990.out⟩, ⟨by (try simp only [hl1011001_63]); (with_reducible repeat (first | refine blk_drewN ?_ _ | refine blk_drew ?_ | refine blk_alloc ?_ _)); exact BK1010.out⟩, ⟨ne_ HB.out⟩⟩
      case rest =>
       clear HC96
       try clear c1
       try clear c2
       try clear c4
       try clear c4b0
       try clear c4b1
       try clear c6
       try clear c6b0
       try clear c6b1
       try clear c9
       try clear c9b0
       try clear c51
       try clear c54
       try clear c57
       try clear c60
       try clear c85
       try clear c88
       try clear c88b0
       try clear c91
       try clear c91b0
       try clear c91b1
       try clear hcz100_0
       try clear hcz100_1
       try clear hcz23_0
       try clear hcz23_1
       try clear hcz25_0
       try clear hcz25_1
       try clear hcz33_0
       try clear hcz33_1
       try clear hcz37_0
       try clear hcz37_1
       try clear hcz41_0
       try clear hcz41_1
       try clear hcz74_0
       try clear hcz74_1
       try clear hfz100_0
       try clear hfz100_1
       try clear hfz23_0
       try clear hfz23_1
       try clear hfz25_0
       try clear hfz25_1
       try clear hfz33_0
       try clear hfz33_1
       try clear hfz37_0
       try clear hfz37_1
       try clear hfz41_0
       try clear hfz41_1
       try clear hfz74_0
       try clear hfz74_1
       obtain ⟨kq, x129_95, rfl, HA, HJ95, HO_13, HO_1011001, BK990, BK1010, HB⟩ := hcut
       have hl13_95 := (rR16 HO_13.out).1
       rw [hl13_95] at HO_13
       (try simp only [hl13_95])
       (try simp only [hl13_95] at BK990)
       (try simp only [hl13_95] at BK1010)
       (try simp only [hl13_95] at HO_1011001)
       cases kq with
       | zero => exact absurd HA.out (by simp [laws_FnExactWalkJoin.j2])
       | succ kj95 =>
        have H := HA.out
        clear HA
        simp only [laws_FnExactWalkJoin.j2] at H
        by_cases c114 : x129_95 = true
        ·subst c114
         have H1 : (some false) = some r := by rw [if_pos rfl] at H; exact H
         clear H
         have H := H1
         clear H1
         obtain rfl := Option.some.inj H
         go_wp2
         go_ret
         exact ⟨nw_, ne_ HB.out⟩
        replace c114 := Bool.eq_false_iff.mpr c114
        subst c114
        have H1 : ((laws_heldIntS.f kj95 t1043 1).bind fun t1060 => (if t1060 < 0 then (some false) else (if t1060 = t1042 then (some true) else (some false)))) = some r := by rw [if_neg (show ¬ (false = true) by decide)] at H; exact H
        clear H
        have H := H1
        clear H1
        replace H := Option.bind_eq_some_iff.mp H
        obtain ⟨t1060, A1150, H⟩ := H
        replace H : (if t1060 < 0 then (some false) else (if t1060 = t1042 then (some true) else (some false))) = some r := H
        have A115 := Aside0.mk A1150
        clear A1150
        by_cases c116 : t1060 < 0
        ·rw [if_pos c116] at H
         have c116b0 : decide (t1060 < 0) = true := decide_eq_true c116
         clear c116
         obtain rfl := Option.some.inj H
         go_wp2_with (first | ((with_reducible refine gate_callee (f := 35) rfl ?_); refine gl_ (some 132) Try.func35 #[.slice Ao97 t1043.length co97, .int .i64 1] ?_; (with_reducible refine (laws_heldIntS.calls kj95 _ _ t1043 1 t1060 _ ?side1 ?side2 A115.out).mono ?_); (case side1 => exact nc_ (rR16 HO_13.out).2.2); (case side2 => exact (rR16 HO_13.out).2.1); rintro e w' ⟨rfl, ⟨nd, rfl⟩⟩; refine ⟨_, rfl, ?_⟩))
         go_ret
         exact ⟨nw_, ne_ HB.out⟩
        rw [if_neg c116] at H
        have c116b0 : decide (t1060 < 0) = false := decide_eq_false c116
        clear c116
        by_cases c117 : t1060 = t1042
        rotate_left
        ·rw [if_neg c117] at H
         have c117b0 : (t1060 == t1042) = false := beq_eq_false_iff_ne.mpr c117
         have c117b1 : (t1060 != t1042) = true := bne_iff_ne.mpr c117
         obtain rfl := Option.some.inj H
         go_wp2_with (first | ((with_reducible refine gate_callee (f := 35) rfl ?_); refine gl_ (some 132) Try.func35 #[.slice Ao97 t1043.length co97, .int .i64 1] ?_; (with_reducible refine (laws_heldIntS.calls kj95 _ _ t1043 1 t1060 _ ?side1 ?side2 A115.out).mono ?_); (case side1 => exact nc_ (rR16 HO_13.out).2.2); (case side2 => exact (rR16 HO_13.out).2.1); rintro e w' ⟨rfl, ⟨nd, rfl⟩⟩; refine ⟨_, rfl, ?_⟩))
         go_ret
         exact ⟨nw_, ne_ HB.out⟩
        rw [if_pos c117] at H
        have c117b0 : (t1060 == t1042) = true := beq_iff_eq.mpr c117
        have c117b1 : (t1060 != t1042) = false := bne_eq_false_iff_eq.mpr c117
        clear c117
        obtain rfl := Option.some.inj H
        go_wp2_with (first | ((with_reducible refine gate_callee (f := 35) rfl ?_); refine gl_ (some 132) Try.func35 #[.slice Ao97 t1043.length co97, .int .i64 1] ?_; (with_reducible refine (laws_heldIntS.calls kj95 _ _ t1043 1 t1060 _ ?side1 ?side2 A115.out).mono ?_); (case side1 => exact nc_ (rR16 HO_13.out).2.2); (case side2 => exact (rR16 HO_13.out).2.1); rintro e w' ⟨rfl, ⟨nd, rfl⟩⟩; refine ⟨_, rfl, ?_⟩))
        go_ret
        exact ⟨nw_, ne_ HB.out⟩
/-- THE ONE PURE STATEMENT of laws_FnExactWalkJoin. -/
def laws_FnExactWalkJoin.Pure : Prop := ∀ (a0_0 : Int) (l0_1 : List (S101)) (l1 : List Int) (l2 : List Int), (Lit.int .i64 a0_0).wf = true → l0_1.length ≤ maxLen → (∀ x ∈ l0_1, (Lit.int .i64 x.f0).wf = true ∧ (Lit.int .i64 x.f1).wf = true ∧ (Lit.int .i64 x.f2).wf = true ∧ (Lit.int .i64 x.f3).wf = true ∧ (Lit.int .i64 x.f4).wf = true) → l1.length ≤ maxLen → (∀ x ∈ l1, (Lit.int .i64 x).wf = true) → l2.length ≤ maxLen → (∀ x ∈ l2, (Lit.int .i64 x).wf = true) → ∃ k, laws_FnExactWalkJoin.f k a0_0 l0_1 l1 l2 = some true
theorem laws_FnExactWalkJoin.walk (P : laws_FnExactWalkJoin.Pure) (a0_0 : Int) (A0_1 : Option Addr) (c0_1 : Nat) (l0_1 : List (S101)) (A1 : Option Addr) (c1 : Nat) (l1 : List Int) (A2 : Option Addr) (c2 : Nat) (l2 : List Int) (w : World) (hw0_0 : (Lit.int .i64 a0_0).wf = true) (hr0_1 : Kd.C k101 w A0_1 l0_1.length l0_1) (hm0_1 : l0_1.length ≤ maxLen) (hw0_1 : ∀ x ∈ l0_1, (Lit.int .i64 x.f0).wf = true ∧ (Lit.int .i64 x.f1).wf = true ∧ (Lit.int .i64 x.f2).wf = true ∧ (Lit.int .i64 x.f3).wf = true ∧ (Lit.int .i64 x.f4).wf = true) (hc0_1 : l0_1.length ≤ c0_1) (hr1 : Kd.C (Kd.int .i64) w A1 l1.length l1) (hm1 : l1.length ≤ maxLen) (hw1 : ∀ x ∈ l1, (Lit.int .i64 x).wf = true) (hc1 : l1.length ≤ c1) (hr2 : Kd.C (Kd.int .i64) w A2 l2.length l2) (hm2 : l2.length ≤ maxLen) (hw2 : ∀ x ∈ l2, (Lit.int .i64 x).wf = true) (hc2 : l2.length ≤ c2) :
    Calls Try.prog 16 #[.agg #[.int .i64 a0_0, .slice A0_1 l0_1.length c0_1], .slice A1 l1.length c1, .slice A2 l2.length c2] w fun e w' => e = .returned (.bool true) ∧ Below w.heap.size w w' := by
  obtain ⟨k, h⟩ := P a0_0 l0_1 l1 l2 hw0_0 hm0_1 hw0_1 hm1 hw1 hm2 hw2
  refine (laws_FnExactWalkJoin.calls k a0_0 A0_1 c0_1 l0_1 A1 c1 l1 A2 c2 l2 true w hr0_1 hc0_1 hr1 hc1 hr2 hc2 h).mono ?_
  rintro e w' ⟨rfl, hd⟩
  exact ⟨rfl, hd⟩

end Go.Proofs.Ytpjmkghmjpbldaa.Print
