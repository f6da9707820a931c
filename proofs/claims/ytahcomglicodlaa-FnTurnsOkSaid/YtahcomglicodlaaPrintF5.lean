-- Made by this session's own program (wip/patch_print.py, over the kit's print). Lean checks it.
import Derived.Test.YtahcomglicodlaaPrint0
import Derived.Test.YtahcomglicodlaaPrintB
import Derived.Test.YtahcomglicodlaaPrintF10
import Derived.Test.YtahcomglicodlaaPrintF12
namespace Go.Proofs.Ytahcomglicodlaa.Print
open Go.RowKit Go.Proofs.YtahcomglicodlaaW.PrintWords Go.Proofs.YtahcomglicodlaaW.PrintLast Go.Proofs.YtahcomglicodlaaW.PrintMore Go.Proofs.YtahcomglicodlaaX
attribute [local go_sem] max2_int min2_int max_two min_two max_three min_three max_four min_four   -- for this text's walks alone
set_option linter.unusedVariables false
set_option linter.unusedSimpArgs false

abbrev z5_0 := bm_ 41 0
abbrev z5_1 := bm_ 41 1
abbrev z5_2 := bm_ 41 5
abbrev z5_3 := bm_ 41 7
abbrev z5_4 := bm_ 41 15
abbrev z5_5 := bm_ 41 31
abbrev z5_6 := bm_ 41 63
abbrev z5_7 := bm_ 41 127
abbrev z5_8 := bm_ 41 255
abbrev z5_9 := bm_ 41 511
abbrev z5_10 := bm_ 41 1023
abbrev z5_11 := bm_ 41 3071
abbrev z5_12 := bm_ 41 4095
abbrev z5_13 := bm_ 41 8191
abbrev z5_14 := bm_ 41 16383
abbrev z5_15 := bm_ 41 32767
abbrev z5_16 := bm_ 41 65535
abbrev z5_17 := bm_ 41 131071
abbrev z5_18 := bm_ 41 262143
abbrev z5_19 := bm_ 41 524287
abbrev z5_20 := bm_ 41 1048575
abbrev z5_21 := bm_ 41 3145727
abbrev z5_22 := bm_ 41 70254591
abbrev z5_23 := bm_ 41 338690047
abbrev z5_24 := bm_ 41 339738623
abbrev z5_25 := bm_ 41 343932927
abbrev z5_26 := bm_ 41 352321535
abbrev z5_27 := bm_ 41 369098751
abbrev z5_28 := bm_ 41 402653183
abbrev z5_29 := bm_ 41 536870911
abbrev z5_30 := bm_ 41 1073741823
abbrev z5_31 := bm_ 41 2147483647
abbrev z5_32 := bm_ 41 4294967295
abbrev z5_33 := bm_ 41 8589934591
abbrev z5_34 := bm_ 41 17179869183
abbrev z5_35 := bm_ 41 34359738367
abbrev z5_36 := bm_ 41 68719476735
abbrev z5_37 := bm_ 41 137438953471
abbrev z5_38 := bm_ 41 274877906943
abbrev z5_39 := bm_ 41 549755813887
abbrev z5_40 := bm_ 41 1099511627775
abbrev z5_41 := bm_ 41 2199023255551
abbrev z5_42 := bm_ 41 2097151
abbrev z5_43 := bm_ 41 4194303
abbrev z5_44 := bm_ 41 8388607
abbrev z5_45 := bm_ 41 16777215
abbrev z5_46 := bm_ 41 33554431
abbrev z5_47 := bm_ 41 67108863
abbrev z5_48 := bm_ 41 134217727
abbrev z5_49 := bm_ 41 268435455
/-! ### impl_TurnsOk: function 5 -/
mutual
def impl_TurnsOk.j0 : Nat → List (S31) → Bool → Int → List (S33) → Option (Bool)
  | 0, _, _, _, _ => none
  | k + 1, x1, x14, x222000, x222001 => if x14 = true then (some false) else (impl_TurnsOk.l0 k x1 x1 (x1.length : Int) 0 x222000 x222001)
def impl_TurnsOk.l0 : Nat → List (S31) → List (S31) → Int → Int → Int → List (S33) → Option (Bool)
  | 0, _, _, _, _, _, _ => none
  | k + 1, x1, x15, x16, x17, x222000, x222001 => if x17 < x16 then (if 0 ≤ x17 then (if x17 < (x15.length : Int) then ((impl_within.f ((rd_T31 x15 x17).f0) 0 (wrap64 ((x222001.length : Int) - 1))).bind fun t225 => (if t225 = true then ((impl_within.f ((rd_T31 x15 x17).f1) 0 (wrap64 ((x222001.length : Int) - 1))).bind fun t226 => (if t226 = true then (if 0 ≤ ((rd_T31 x15 x17).f0) then (if ((rd_T31 x15 x17).f0) < (x222001.length : Int) then (if 0 ≤ ((rd_T31 x15 x17).f1) then (if ((rd_T31 x15 x17).f1) < (x222001.length : Int) then (if ((rd_T33 x222001 ((rd_T31 x15 x17).f0)).f1) = ((rd_T33 x222001 ((rd_T31 x15 x17).f1)).f0) then ((impl_within.f ((rd_T31 x15 x17).f2) (-1) 99).bind fun t229 => (impl_TurnsOk.j2 k x1 x17 x15 x16 x17 (!t229) x222000 x222001 ((rd_T31 x15 x17).f0) ((rd_T31 x15 x17).f1) ((rd_T31 x15 x17).f2))) else (impl_TurnsOk.j2 k x1 x17 x15 x16 x17 true x222000 x222001 ((rd_T31 x15 x17).f0) ((rd_T31 x15 x17).f1) ((rd_T31 x15 x17).f2))) else (none)) else (none)) else (none)) else (none)) else (impl_TurnsOk.j2 k x1 x17 x15 x16 x17 true x222000 x222001 ((rd_T31 x15 x17).f0) ((rd_T31 x15 x17).f1) ((rd_T31 x15 x17).f2)))) else (impl_TurnsOk.j2 k x1 x17 x15 x16 x17 true x222000 x222001 ((rd_T31 x15 x17).f0) ((rd_T31 x15 x17).f1) ((rd_T31 x15 x17).f2)))) else (none)) else (none)) else (some true)
def impl_TurnsOk.j2 : Nat → List (S31) → Int → List (S31) → Int → Int → Bool → Int → List (S33) → Int → Int → Int → Option (Bool)
  | 0, _, _, _, _, _, _, _, _, _, _, _ => none
  | k + 1, x1, x5, x15, x16, x17, x62, x222000, x222001, x225000, x225001, x225002 => if x62 = true then (some false) else (if 0 ≤ x5 then (if x5 ≤ (x1.length : Int) then ((impl_Turn_12.f (x1.take (x5 : Int).toNat) x225000 x225001 x225002).bind fun t234 => (if t234 = true then (some false) else (impl_TurnsOk.l0 k x1 x15 x16 (wrap64 (x17 + 1)) x222000 x222001))) else (none)) else (none))
end
def impl_TurnsOk.f (k : Nat) (a0_0 : Int) (l0_1 : List (S33)) (l1 : List (S31)) : Option (Bool) := (impl_NetOk.f a0_0 l0_1).bind fun t222 => (if t222 = true then (impl_TurnsOk.j0 k l1 (decide ((l1.length : Int) > 12)) a0_0 l0_1) else (impl_TurnsOk.j0 k l1 true a0_0 l0_1))
theorem impl_TurnsOk.mono_l : ∀ k, (∀ y0 y1 y2 y3, LeO (impl_TurnsOk.j0 k y0 y1 y2 y3) (impl_TurnsOk.j0 (k + 1) y0 y1 y2 y3)) ∧ (∀ y0 y1 y2 y3 y4 y5, LeO (impl_TurnsOk.l0 k y0 y1 y2 y3 y4 y5) (impl_TurnsOk.l0 (k + 1) y0 y1 y2 y3 y4 y5)) ∧ (∀ y0 y1 y2 y3 y4 y5 y6 y7 y8 y9 y10, LeO (impl_TurnsOk.j2 k y0 y1 y2 y3 y4 y5 y6 y7 y8 y9 y10) (impl_TurnsOk.j2 (k + 1) y0 y1 y2 y3 y4 y5 y6 y7 y8 y9 y10))
  | 0 => ⟨fun _ _ _ _ r h => by simp [impl_TurnsOk.j0] at h, fun _ _ _ _ _ _ r h => by simp [impl_TurnsOk.l0] at h, fun _ _ _ _ _ _ _ _ _ _ _ r h => by simp [impl_TurnsOk.j2] at h⟩
  | k + 1 => by
    obtain ⟨ih0, ih1, ih2⟩ := impl_TurnsOk.mono_l k
    refine ⟨?_, ?_, ?_⟩
    · intro y0 y1 y2 y3
      unfold impl_TurnsOk.j0
      repeat' first | (with_reducible first | exact ih0 _ _ _ _ | exact ih1 _ _ _ _ _ _ | exact ih2 _ _ _ _ _ _ _ _ _ _ _ | exact LeO.refl _ | exact LeO.none _ | refine LeO.ite ?_ ?_ | refine LeO.bind ?_ (fun _ => ?_)) | exact ih0 _ _ _ _ | exact ih1 _ _ _ _ _ _ | exact ih2 _ _ _ _ _ _ _ _ _ _ _ | exact LeO.none _ | refine LeO.ite ?_ ?_ | refine LeO.bind ?_ (fun _ => ?_)
    · intro y0 y1 y2 y3 y4 y5
      unfold impl_TurnsOk.l0
      repeat' first | (with_reducible first | exact ih0 _ _ _ _ | exact ih1 _ _ _ _ _ _ | exact ih2 _ _ _ _ _ _ _ _ _ _ _ | exact LeO.refl _ | exact LeO.none _ | refine LeO.ite ?_ ?_ | refine LeO.bind ?_ (fun _ => ?_)) | exact ih0 _ _ _ _ | exact ih1 _ _ _ _ _ _ | exact ih2 _ _ _ _ _ _ _ _ _ _ _ | exact LeO.none _ | refine LeO.ite ?_ ?_ | refine LeO.bind ?_ (fun _ => ?_)
    · intro y0 y1 y2 y3 y4 y5 y6 y7 y8 y9 y10
      unfold impl_TurnsOk.j2
      repeat' first | (with_reducible first | exact ih0 _ _ _ _ | exact ih1 _ _ _ _ _ _ | exact ih2 _ _ _ _ _ _ _ _ _ _ _ | exact LeO.refl _ | exact LeO.none _ | refine LeO.ite ?_ ?_ | refine LeO.bind ?_ (fun _ => ?_)) | exact ih0 _ _ _ _ | exact ih1 _ _ _ _ _ _ | exact ih2 _ _ _ _ _ _ _ _ _ _ _ | exact LeO.none _ | refine LeO.ite ?_ ?_ | refine LeO.bind ?_ (fun _ => ?_)
theorem impl_TurnsOk.mono : ∀ a0 a1 a2 k, LeO (impl_TurnsOk.f k a0 a1 a2) (impl_TurnsOk.f (k + 1) a0 a1 a2) := by
  intro a0 a1 a2 k
  obtain ⟨ih0, ih1, ih2⟩ := impl_TurnsOk.mono_l k
  unfold impl_TurnsOk.f
  repeat' first | (with_reducible first | exact ih0 _ _ _ _ | exact ih1 _ _ _ _ _ _ | exact ih2 _ _ _ _ _ _ _ _ _ _ _ | exact LeO.refl _ | exact LeO.none _ | refine LeO.ite ?_ ?_ | refine LeO.bind ?_ (fun _ => ?_)) | exact ih0 _ _ _ _ | exact ih1 _ _ _ _ _ _ | exact ih2 _ _ _ _ _ _ _ _ _ _ _ | exact LeO.none _ | refine LeO.ite ?_ ?_ | refine LeO.bind ?_ (fun _ => ?_)
def impl_TurnsOk.T6 : Bool × List (List Nat × List Nat) := (true, [([], []), ([0], [0]), ([], []), ([2], [2]), ([3], [3]), ([4], [4]), ([1, 5], [1, 5]), ([6], [6]), ([7, 6], [7]), ([8], [8]), ([9, 8], [8, 9]), ([8], [8]), ([11, 8], [8, 11]), ([12, 8], [8, 12]), ([13, 8], [8, 13]), ([10, 14, 8, 8], [8, 10, 14]), ([15, 8], [8, 15]), ([8, 16], [8, 16]), ([17, 15], [17]), ([18], [18]), ([19, 18], [18, 19]), ([18], [18]), ([21, 18], [18, 21]), ([20, 22, 18], [18, 20, 22]), ([23, 18], [18, 23]), ([24, 18], [18, 24]), ([18], [18]), ([26, 18], [18, 26]), ([18], [18]), ([28, 18], [18, 28]), ([27, 29, 18], [18, 27, 29]), ([30, 18], [18, 30]), ([31, 18], [18, 31]), ([25, 32, 18], [18, 25, 32]), ([18, 33], [18, 33]), ([34, 18], [34]), ([35], [35]), ([36, 35], [35, 36]), ([37, 35, 35], [35, 37]), ([38, 35], [35, 38]), ([35, 39], [35, 39])])
def impl_TurnsOk.B6 : List Nat := [0, 1, 0, 4, 12, 28, 63, 127, 255, 511, 1023, 511, 2559, 6655, 14847, 32767, 65535, 131071, 262143, 524287, 1048575, 524287, 2621439, 8388607, 16777215, 33554431, 524287, 67633151, 524287, 268959743, 1007157247, 2080899071, 4228382719, 8589934591, 17179869183, 34359738367, 68719476735, 137438953471, 274877906943, 549755813887, 1099511627775]
theorem impl_TurnsOk.tab6 : rtab .any (opsOf Try.f5 6) = impl_TurnsOk.T6 := by kernel_rfl
theorem impl_TurnsOk.bits6 : waitsOk impl_TurnsOk.T6.2 impl_TurnsOk.B6 = true := by kernel_rfl
set_option maxHeartbeats 200000000 in
set_option maxRecDepth 100000 in
theorem impl_TurnsOk.calls (k : Nat) (a0_0 : Int) (A0_1 : Option Addr) (c0_1 : Nat) (l0_1 : List (S33)) (A1 : Option Addr) (c1 : Nat) (l1 : List (S31)) (r : Bool) (w : World) (hr0_1 : Kd.C k33 w A0_1 l0_1.length l0_1) (hc0_1 : l0_1.length ≤ c0_1) (hr1 : Kd.C k31 w A1 l1.length l1) (hc1 : l1.length ≤ c1) (h : impl_TurnsOk.f k a0_0 l0_1 l1 = some r) :
    Calls Try.prog 5 #[.agg #[.int .i64 a0_0, .slice A0_1 l0_1.length c0_1], .slice A1 l1.length c1] w fun e w' => e = .returned (.bool r) ∧ Below w.heap.size w w' := by
  have hu25 := Try.underlying25
  have hu31 := Try.underlying31
  have HR0_1 := Aside0.mk hr0_1
  have HC0_1 := Aside0.mk hc0_1
  clear hr0_1 hc0_1
  have HR1 := Aside0.mk hr1
  have HC1 := Aside0.mk hc1
  clear hr1 hc1
  have HB := Aside0.mk (Below.refl w.heap.size w)
  have H : ((impl_NetOk.f a0_0 l0_1).bind fun t222 => (if t222 = true then (impl_TurnsOk.j0 k l1 (decide ((l1.length : Int) > 12)) a0_0 l0_1) else (impl_TurnsOk.j0 k l1 true a0_0 l0_1))) = some r := h
  clear h
  have HC3 := Aside0.mk H
  clear H
  go_enter Try.func5, Try.ntmps5
  go_upto_region 1 with (first | ((with_reducible refine gate_dst (N := 2) rfl ?_); (try (refine gate_guard (by rfl) ?_; dsimp only)); refine bx_ 2 #[.int .i64 a0_0, .slice A0_1 l0_1.length c0_1] 25 ?_; intro gb221 hg w4 hbox hb; have BK221 := Aside0.mk (hbox); have GW221 := Aside0.mk (zs_ hg (ne_ HB.out)); have GE221 := Aside0.mk (zs_ hg (ne_ HB.out)); replace HB := kB_ HB hb; clear hb hbox hg))
  (try simp only [Act.put, List.setIfInBounds_toArray, List.set_cons_zero, List.set_cons_succ])
  go_cut [14] (fun v14 wc => ∃ (kq : Nat) (x14_2 : Bool), v14 = .bool x14_2 ∧ Aside0 (impl_TurnsOk.j0 kq l1 x14_2 a0_0 l0_1 = some r) ∧ Aside0 (kq ≤ k) ∧ Aside0 (wc.heap[gb221]? = some (.cells #[.int .i64 a0_0, (.slice A0_1 l0_1.length c0_1)] 25 (0, 0))) ∧ Aside0 (Below w.heap.size w wc))
  case first =>
   have H := HC3.out
   clear HC3
   replace H := Option.bind_eq_some_iff.mp H
   obtain ⟨t222, A50, H⟩ := H
   try dsimp only at H
   have A5 := Aside0.mk A50
   clear A50
   by_cases c6 : t222 = true
   ·subst c6
    have H1 : (impl_TurnsOk.j0 k l1 (decide ((l1.length : Int) > 12)) a0_0 l0_1) = some r := by rw [if_pos rfl] at H; exact H
    clear H
    have H := H1
    clear H1
    have H' := Aside0.mk H
    clear H
    obtain ⟨hcz7_0, hcz7_1, hfz7_0, hfz7_1⟩ := cz2_ BK221.out
    go_wp2_with (first | ((with_reducible refine gate_callee (f := 10) rfl ?_); refine gl_ (some 8) Try.func10 #[.agg #[.int .i64 a0_0, .slice A0_1 l0_1.length c0_1]] ?_; (with_reducible refine (impl_NetOk.calls a0_0 _ _ l0_1 true _ ?side1 ?side2 A5.out).mono ?_); (case side1 => exact nc_ (Kd.C_below HR0_1.out HB.out)); (case side2 => exact HC0_1.out); rintro e w8 ⟨rfl, hb⟩; refine ⟨_, rfl, ?_⟩; replace BK221 := kb_ BK221 hb; replace HB := kB_ HB hb; (try clear hb); (try clear hb2); (try clear hk); (try clear hi)))
    go_meet
    case rel => exact ⟨_, (decide ((l1.length : Int) > 12)), ns_, H', ⟨by first | omega | exact Nat.le_refl _⟩, ⟨nb_ BK221.out⟩, ⟨ne_ HB.out⟩⟩
   replace c6 := Bool.eq_false_iff.mpr c6
   subst c6
   have H1 : (impl_TurnsOk.j0 k l1 true a0_0 l0_1) = some r := by rw [if_neg (show ¬ (false = true) by decide)] at H; exact H
   clear H
   have H := H1
   clear H1
   have H' := Aside0.mk H
   clear H
   obtain ⟨hcz9_0, hcz9_1, hfz9_0, hfz9_1⟩ := cz2_ BK221.out
   go_wp2_with (first | ((with_reducible refine gate_callee (f := 10) rfl ?_); refine gl_ (some 8) Try.func10 #[.agg #[.int .i64 a0_0, .slice A0_1 l0_1.length c0_1]] ?_; (with_reducible refine (impl_NetOk.calls a0_0 _ _ l0_1 false _ ?side1 ?side2 A5.out).mono ?_); (case side1 => exact nc_ (Kd.C_below HR0_1.out HB.out)); (case side2 => exact HC0_1.out); rintro e w10 ⟨rfl, hb⟩; refine ⟨_, rfl, ?_⟩; replace BK221 := kb_ BK221 hb; replace HB := kB_ HB hb; (try clear hb); (try clear hb2); (try clear hk); (try clear hi)))
   go_meet
   case rel => exact ⟨_, (true), ns_, H', ⟨by first | omega | exact Nat.le_refl _⟩, ⟨nb_ BK221.out⟩, ⟨ne_ HB.out⟩⟩
  case rest =>
   clear HC3
   try clear c1
   obtain ⟨kq, x14_2, rfl, HA, HJ2, BK221, HB⟩ := hcut
   cases kq with
   | zero => exact absurd HA.out (by simp [impl_TurnsOk.j0])
   | succ kj2 =>
    have H := HA.out
    clear HA
    simp only [impl_TurnsOk.j0] at H
    by_cases c11 : x14_2 = true
    ·subst c11
     have H1 : (some false) = some r := by rw [if_pos rfl] at H; exact H
     clear H
     have H := H1
     clear H1
     obtain rfl := Option.some.inj H
     go_wp2
     go_ret
     exact ⟨nw_, ne_ HB.out⟩
    replace c11 := Bool.eq_false_iff.mpr c11
    subst c11
    have H1 : (impl_TurnsOk.l0 kj2 l1 l1 (l1.length : Int) 0 a0_0 l0_1) = some r := by rw [if_neg (show ¬ (false = true) by decide)] at H; exact H
    clear H
    have H := H1
    clear H1
    have H' := Aside0.mk H
    clear H
    go_wp2
    go_loopg [17] kj2 (fun kq v17 w' => ∃ (x17_2 : Int), v17 = .int .i64 x17_2 ∧ Aside0 (impl_TurnsOk.l0 kq l1 l1 (l1.length : Int) x17_2 a0_0 l0_1 = some r) ∧ Aside0 (kq ≤ kj2) ∧ Aside0 (w'.heap[gb221]? = some (.cells #[.int .i64 a0_0, (.slice A0_1 l0_1.length c0_1)] 25 (0, 0))) ∧ Aside0 (Below w.heap.size w w'))
    case atStart => exact ⟨(0), ns_, H', ⟨Nat.le_refl _⟩, ⟨nb_ BK221.out⟩, ⟨ne_ HB.out⟩⟩
    case round =>
     clear H'
     try clear c1
     try clear c11
     obtain ⟨x17_2, rfl, HA, HK2, BK221, HB⟩ := hrel
     cases gk with
     | zero => exact absurd HA.out (by simp [impl_TurnsOk.l0])
     | succ k2 =>
      have H := HA.out
      clear HA
      simp only [impl_TurnsOk.l0] at H
      by_cases c12 : x17_2 < (l1.length : Int)
      rotate_left
      ·rw [if_neg c12] at H
       have c12b0 : decide (x17_2 < (l1.length : Int)) = false := decide_eq_false c12
       clear c12
       obtain rfl := Option.some.inj H
       go_wp2
       go_ret
       exact ⟨nw_, ne_ HB.out⟩

      rw [if_pos c12] at H
      have c12b0 : decide (x17_2 < (l1.length : Int)) = true := decide_eq_true c12
      clear c12
      by_cases c13 : 0 ≤ x17_2
      rotate_left
      ·rw [if_neg c13] at H
       exact absurd H (by simp)
      rw [if_pos c13] at H
      have c13b0 : decide (0 ≤ x17_2) = true := decide_eq_true c13
      clear c13
      by_cases c14 : x17_2 < (l1.length : Int)
      rotate_left
      ·rw [if_neg c14] at H
       exact absurd H (by simp)
      rw [if_pos c14] at H
      have c14b0 : decide (x17_2 < (l1.length : Int)) = true := decide_eq_true c14
      clear c14
      have HC15 := Aside0.mk H
      clear H
      have p223 : 0 ≤ (x17_2 : Int) := of_decide_eq_true nx_
      have q223 : x17_2 < (l1.length : Int) := of_decide_eq_true nx_
      obtain ⟨ad223, e223, hx223_0, hx223_1, hx223_2⟩ := at_T31 HR1.out x17_2 p223 q223
      cases e223
      replace hx223_0 := hb_ HB.out hx223_0
      replace hx223_1 := hb_ HB.out hx223_1
      replace hx223_2 := hb_ HB.out hx223_2
      replace p223 := eq_true p223
      replace q223 := eq_true q223
      go_upto_region 6 with (first | ((with_reducible refine gate_dst (N := 6) rfl ?_); (try (refine gate_guard (by rfl) ?_; dsimp only)); refine bx_ 6 #[.int .i64 0, .int .i64 0, .int .i64 0] 31 ?_; intro gb224 hg w16 hbox hb; have BK224 := Aside0.mk (hbox); have GW224 := Aside0.mk (zs_ hg (ne_ HB.out)); have GE224 := Aside0.mk (zs_ hg (ne_ HB.out)); have NB221_224 := Aside0.mk (nl_ BK221.out hg); have NB224_221 := Aside0.mk (nm_ BK221.out hg); replace BK221 := kb_ BK221 hb; replace HB := kB_ HB hb; clear hb hbox hg; have hnb17 := NB224_221.out; have hnc17 := NB221_224.out; obtain ⟨hcz18_0, hcz18_1, hcz18_2, hfz18_0, hfz18_1, hfz18_2⟩ := cz3_ BK224.out))
      (try simp only [Act.put, List.setIfInBounds_toArray, List.set_cons_zero, List.set_cons_succ])
      go_cut [62] (fun v62 wc => ∃ (kq : Nat) (x62_14 : Bool), v62 = .bool x62_14 ∧ Aside0 (impl_TurnsOk.j2 kq l1 x17_2 l1 (l1.length : Int) x17_2 x62_14 a0_0 l0_1 ((rd_T31 l1 x17_2).f0) ((rd_T31 l1 x17_2).f1) ((rd_T31 l1 x17_2).f2) = some r) ∧ Aside0 (kq ≤ k2) ∧ Aside0 (wc.heap[gb221]? = some (.cells #[.int .i64 a0_0, (.slice A0_1 l0_1.length c0_1)] 25 (0, 0))) ∧ Aside0 (wc.heap[gb224]? = some (.cells #[.int .i64 ((rd_T31 l1 x17_2).f0), .int .i64 ((rd_T31 l1 x17_2).f1), .int .i64 ((rd_T31 l1 x17_2).f2)] 31 (0, 0))) ∧ Aside0 (Below w.heap.size w wc))
      case first =>
       have H := HC15.out
       clear HC15
       replace H := Option.bind_eq_some_iff.mp H
       obtain ⟨t225, A190, H⟩ := H
       try dsimp only at H
       have A19 := Aside0.mk A190
       clear A190
       by_cases c20 : t225 = true
       rotate_left
       ·replace c20 := Bool.eq_false_iff.mpr c20
        subst c20
        have H1 : (impl_TurnsOk.j2 k2 l1 x17_2 l1 (l1.length : Int) x17_2 true a0_0 l0_1 ((rd_T31 l1 x17_2).f0) ((rd_T31 l1 x17_2).f1) ((rd_T31 l1 x17_2).f2)) = some r := by rw [if_neg (show ¬ (false = true) by decide)] at H; exact H
        clear H
        have H := H1
        clear H1
        have H' := Aside0.mk H
        clear H
        try go_wp2
        have n0_ : Aside0 ((((w16.setCell ⟨gb224, 0, none⟩ (.int .i64 ((rd_T31 l1 x17_2).f0))).setCell ⟨gb224, 1, none⟩ (.int .i64 ((rd_T31 l1 x17_2).f1))).setCell ⟨gb224, 2, none⟩ (.int .i64 ((rd_T31 l1 x17_2).f2))).heap[gb221]? = some (.cells #[.int .i64 a0_0, .slice A0_1 l0_1.length c0_1] 25 (0, 0))) := ⟨np_ BK221.out⟩
        have n1_ : Aside0 ((((w16.setCell ⟨gb224, 0, none⟩ (.int .i64 ((rd_T31 l1 x17_2).f0))).setCell ⟨gb224, 1, none⟩ (.int .i64 ((rd_T31 l1 x17_2).f1))).setCell ⟨gb224, 2, none⟩ (.int .i64 ((rd_T31 l1 x17_2).f2))).heap[gb224]? = some (.cells #[.int .i64 ((rd_T31 l1 x17_2).f0), .int .i64 ((rd_T31 l1 x17_2).f1), .int .i64 ((rd_T31 l1 x17_2).f2)] 31 (0, 0))) := ⟨np_ BK224.out⟩
        have n2_ : Aside0 (Below w.heap.size w (((w16.setCell ⟨gb224, 0, none⟩ (.int .i64 ((rd_T31 l1 x17_2).f0))).setCell ⟨gb224, 1, none⟩ (.int .i64 ((rd_T31 l1 x17_2).f1))).setCell ⟨gb224, 2, none⟩ (.int .i64 ((rd_T31 l1 x17_2).f2)))) := ⟨ne_ HB.out⟩
        (try clear BK221)
        (try clear BK224)
        (try clear HB)
        generalize (((w16.setCell ⟨gb224, 0, none⟩ (.int .i64 ((rd_T31 l1 x17_2).f0))).setCell ⟨gb224, 1, none⟩ (.int .i64 ((rd_T31 l1 x17_2).f1))).setCell ⟨gb224, 2, none⟩ (.int .i64 ((rd_T31 l1 x17_2).f2))) = w35 at n0_ n1_ n2_ ⊢
        have BK221 := n0_
        have BK224 := n1_
        have HB := n2_
        clear n0_ n1_ n2_
        replace BK221 := Aside0.mk (blk_drew BK221.out)
        replace BK224 := Aside0.mk (blk_drew BK224.out)
        replace HB := Aside0.mk (below_drew1 HB.out)
        refine start_ (n := 41) (S := fun w' => w'.cell? ⟨gb224, 0, none⟩ = some (.int .i64 ((rd_T31 l1 x17_2).f0)) ∧ w'.cell? ⟨gb224, 1, none⟩ = some (.int .i64 ((rd_T31 l1 x17_2).f1)) ∧ w'.cell? ⟨gb224, 2, none⟩ = some (.int .i64 ((rd_T31 l1 x17_2).f2)) ∧ w'.cell? ⟨gb221, 0, none⟩ = some (.int .i64 a0_0) ∧ w'.cell? ⟨gb221, 1, none⟩ = some (.slice A0_1 l0_1.length c0_1)) (ds := []) z5_0 (by kernel_rfl) rfl rfl ⟨ct_ BK224.out 0, ct_ BK224.out 1, ct_ BK224.out 2, ct_ BK221.out 0, ct_ BK221.out 1⟩ (fun hHeld => ?_); refine with_tabW impl_TurnsOk.tab6 impl_TurnsOk.bits6 (fun HT_ HW_ => ?_)
        generalize w35.drew = w36 at BK221 BK224 HB hHeld ⊢
        refine pu_ 0 22 z5_1 HT_.out ?_
        refine pu_ 2 24 z5_2 HT_.out ?_
        refine tk_ 1 23 z5_3 HT_.out HW_.out hHeld ?_
        refine tk_ 3 25 z5_4 HT_.out HW_.out hHeld ?_
        refine pu_ 4 26 z5_5 HT_.out ?_
        refine pu_ 5 27 z5_6 HT_.out ?_
        refine one_ (i := 6) (N := some 28) z5_7 rfl rfl (one_of HT_.out (by kernel_rfl)) (by decide) (fun K hK => ?_)
        refine go_ Try.func11 #[.int .i64 ((rd_T31 l1 x17_2).f0), .int .i64 0, .int .i64 (wrap64 ((l0_1.length : Int) - 1))] ?_
        with_reducible refine (impl_within.calls ((rd_T31 l1 x17_2).f0) 0 (wrap64 ((l0_1.length : Int) - 1)) false _ A19.out).mono ?_
        rintro e w' ⟨rfl, ⟨nd, rfl⟩⟩
        refine ⟨_, rfl, ?_⟩
        refine hK.out _ _ ⟨ct_ BK224.out 0, ct_ BK224.out 1, ct_ BK224.out 2, ct_ BK221.out 0, ct_ BK221.out 1⟩ (fun hHeld => ?_)
        clear hK K
        refine nm1_ (some 28) ?_
        refine pu_ 7 29 z5_8 HT_.out ?_
        refine pu_ 8 30 z5_9 HT_.out ?_
        refine un_ 9 31 z5_10 HT_.out ?_
        refine un_ 10 32 (bm_ 41 2047) HT_.out ?_
        refine un_ 11 33 z5_12 HT_.out ?_
        refine un_ 12 34 z5_13 HT_.out ?_
        refine un_ 13 35 z5_14 HT_.out ?_
        refine un_ 14 36 z5_15 HT_.out ?_
        refine un_ 15 37 z5_16 HT_.out ?_
        refine un_ 16 38 z5_17 HT_.out ?_
        refine pu_ 17 39 z5_18 HT_.out ?_
        refine pu_ 18 40 z5_19 HT_.out ?_
        refine un_ 19 41 z5_20 HT_.out ?_
        refine un_ 20 42 z5_42 HT_.out ?_
        refine un_ 21 43 z5_43 HT_.out ?_
        refine un_ 22 44 z5_44 HT_.out ?_
        refine un_ 23 45 z5_45 HT_.out ?_
        refine un_ 24 46 z5_46 HT_.out ?_
        refine un_ 25 47 z5_47 HT_.out ?_
        refine un_ 26 48 z5_48 HT_.out ?_
        refine un_ 27 49 z5_49 HT_.out ?_
        refine un_ 28 50 z5_29 HT_.out ?_
        refine un_ 29 51 z5_30 HT_.out ?_
        refine un_ 30 52 z5_31 HT_.out ?_
        refine un_ 31 53 z5_32 HT_.out ?_
        refine un_ 32 54 z5_33 HT_.out ?_
        refine un_ 33 55 z5_34 HT_.out ?_
        refine pu_ 34 56 z5_35 HT_.out ?_
        refine pu_ 35 57 z5_36 HT_.out ?_
        refine un_ 36 58 z5_37 HT_.out ?_
        refine un_ 37 59 z5_38 HT_.out ?_
        refine un_ 38 60 z5_39 HT_.out ?_
        refine un_ 39 61 z5_40 HT_.out ?_
        refine pu_ 40 62 z5_41 HT_.out ?_
        refine done_ (done_of HT_.out (by kernel_rfl)) ?_
        try go_wp2
        go_meet
        case rel => exact ⟨_, (true), ns_, H', ⟨by have := HJ2.out; have := HK2.out; first | omega | exact Nat.le_refl _⟩, ⟨nb_ BK221.out⟩, ⟨nb_ BK224.out⟩, ⟨ne_ HB.out⟩⟩
       subst c20
       rw [if_pos rfl] at H
       replace H := Option.bind_eq_some_iff.mp H
       obtain ⟨t226, A210, H⟩ := H
       try dsimp only at H
       have A21 := Aside0.mk A210
       clear A210
       by_cases c22 : t226 = true
       rotate_left
       ·replace c22 := Bool.eq_false_iff.mpr c22
        subst c22
        have H1 : (impl_TurnsOk.j2 k2 l1 x17_2 l1 (l1.length : Int) x17_2 true a0_0 l0_1 ((rd_T31 l1 x17_2).f0) ((rd_T31 l1 x17_2).f1) ((rd_T31 l1 x17_2).f2)) = some r := by rw [if_neg (show ¬ (false = true) by decide)] at H; exact H
        clear H
        have H := H1
        clear H1
        have H' := Aside0.mk H
        clear H
        try go_wp2
        have n0_ : Aside0 ((((w16.setCell ⟨gb224, 0, none⟩ (.int .i64 ((rd_T31 l1 x17_2).f0))).setCell ⟨gb224, 1, none⟩ (.int .i64 ((rd_T31 l1 x17_2).f1))).setCell ⟨gb224, 2, none⟩ (.int .i64 ((rd_T31 l1 x17_2).f2))).heap[gb221]? = some (.cells #[.int .i64 a0_0, .slice A0_1 l0_1.length c0_1] 25 (0, 0))) := ⟨np_ BK221.out⟩
        have n1_ : Aside0 ((((w16.setCell ⟨gb224, 0, none⟩ (.int .i64 ((rd_T31 l1 x17_2).f0))).setCell ⟨gb224, 1, none⟩ (.int .i64 ((rd_T31 l1 x17_2).f1))).setCell ⟨gb224, 2, none⟩ (.int .i64 ((rd_T31 l1 x17_2).f2))).heap[gb224]? = some (.cells #[.int .i64 ((rd_T31 l1 x17_2).f0), .int .i64 ((rd_T31 l1 x17_2).f1), .int .i64 ((rd_T31 l1 x17_2).f2)] 31 (0, 0))) := ⟨np_ BK224.out⟩
        have n2_ : Aside0 (Below w.heap.size w (((w16.setCell ⟨gb224, 0, none⟩ (.int .i64 ((rd_T31 l1 x17_2).f0))).setCell ⟨gb224, 1, none⟩ (.int .i64 ((rd_T31 l1 x17_2).f1))).setCell ⟨gb224, 2, none⟩ (.int .i64 ((rd_T31 l1 x17_2).f2)))) := ⟨ne_ HB.out⟩
        (try clear BK221)
        (try clear BK224)
        (try clear HB)
        generalize (((w16.setCell ⟨gb224, 0, none⟩ (.int .i64 ((rd_T31 l1 x17_2).f0))).setCell ⟨gb224, 1, none⟩ (.int .i64 ((rd_T31 l1 x17_2).f1))).setCell ⟨gb224, 2, none⟩ (.int .i64 ((rd_T31 l1 x17_2).f2))) = w33 at n0_ n1_ n2_ ⊢
        have BK221 := n0_
        have BK224 := n1_
        have HB := n2_
        clear n0_ n1_ n2_
        replace BK221 := Aside0.mk (blk_drew BK221.out)
        replace BK224 := Aside0.mk (blk_drew BK224.out)
        replace HB := Aside0.mk (below_drew1 HB.out)
        refine start_ (n := 41) (S := fun w' => w'.cell? ⟨gb224, 0, none⟩ = some (.int .i64 ((rd_T31 l1 x17_2).f0)) ∧ w'.cell? ⟨gb224, 1, none⟩ = some (.int .i64 ((rd_T31 l1 x17_2).f1)) ∧ w'.cell? ⟨gb224, 2, none⟩ = some (.int .i64 ((rd_T31 l1 x17_2).f2)) ∧ w'.cell? ⟨gb221, 0, none⟩ = some (.int .i64 a0_0) ∧ w'.cell? ⟨gb221, 1, none⟩ = some (.slice A0_1 l0_1.length c0_1)) (ds := []) z5_0 (by kernel_rfl) rfl rfl ⟨ct_ BK224.out 0, ct_ BK224.out 1, ct_ BK224.out 2, ct_ BK221.out 0, ct_ BK221.out 1⟩ (fun hHeld => ?_); refine with_tabW impl_TurnsOk.tab6 impl_TurnsOk.bits6 (fun HT_ HW_ => ?_)
        generalize w33.drew = w34 at BK221 BK224 HB hHeld ⊢
        refine pu_ 0 22 z5_1 HT_.out ?_
        refine pu_ 2 24 z5_2 HT_.out ?_
        refine tk_ 1 23 z5_3 HT_.out HW_.out hHeld ?_
        refine tk_ 3 25 z5_4 HT_.out HW_.out hHeld ?_
        refine pu_ 4 26 z5_5 HT_.out ?_
        refine pu_ 5 27 z5_6 HT_.out ?_
        refine one_ (i := 6) (N := some 28) z5_7 rfl rfl (one_of HT_.out (by kernel_rfl)) (by decide) (fun K hK => ?_)
        refine go_ Try.func11 #[.int .i64 ((rd_T31 l1 x17_2).f0), .int .i64 0, .int .i64 (wrap64 ((l0_1.length : Int) - 1))] ?_
        with_reducible refine (impl_within.calls ((rd_T31 l1 x17_2).f0) 0 (wrap64 ((l0_1.length : Int) - 1)) true _ A19.out).mono ?_
        rintro e w' ⟨rfl, ⟨nd, rfl⟩⟩
        refine ⟨_, rfl, ?_⟩
        refine hK.out _ _ ⟨ct_ BK224.out 0, ct_ BK224.out 1, ct_ BK224.out 2, ct_ BK221.out 0, ct_ BK221.out 1⟩ (fun hHeld => ?_)
        clear hK K
        refine nm1_ (some 28) ?_
        refine pu_ 7 29 z5_8 HT_.out ?_
        refine pu_ 8 30 z5_9 HT_.out ?_
        refine pu_ 9 31 z5_10 HT_.out ?_
        refine pu_ 11 33 z5_11 HT_.out ?_
        refine tk_ 10 32 z5_12 HT_.out HW_.out hHeld ?_
        refine tk_ 12 34 z5_13 HT_.out HW_.out hHeld ?_
        refine pu_ 13 35 z5_14 HT_.out ?_
        refine pu_ 14 36 z5_15 HT_.out ?_
        refine one_ (i := 15) (N := some 37) z5_16 rfl rfl (one_of HT_.out (by kernel_rfl)) (by decide) (fun K hK => ?_)
        refine go_ Try.func11 #[.int .i64 ((rd_T31 l1 x17_2).f1), .int .i64 0, .int .i64 (wrap64 ((l0_1.length : Int) - 1))] ?_
        with_reducible refine (impl_within.calls ((rd_T31 l1 x17_2).f1) 0 (wrap64 ((l0_1.length : Int) - 1)) false _ A21.out).mono ?_
        rintro e w' ⟨rfl, ⟨nd, rfl⟩⟩
        refine ⟨_, rfl, ?_⟩
        refine hK.out _ _ ⟨ct_ BK224.out 0, ct_ BK224.out 1, ct_ BK224.out 2, ct_ BK221.out 0, ct_ BK221.out 1⟩ (fun hHeld => ?_)
        clear hK K
        refine nm1_ (some 37) ?_
        refine pu_ 16 38 z5_17 HT_.out ?_
        refine pu_ 17 39 z5_18 HT_.out ?_
        refine pu_ 18 40 z5_19 HT_.out ?_
        refine un_ 19 41 z5_20 HT_.out ?_
        refine un_ 20 42 z5_42 HT_.out ?_
        refine un_ 21 43 z5_43 HT_.out ?_
        refine un_ 22 44 z5_44 HT_.out ?_
        refine un_ 23 45 z5_45 HT_.out ?_
        refine un_ 24 46 z5_46 HT_.out ?_
        refine un_ 25 47 z5_47 HT_.out ?_
        refine un_ 26 48 z5_48 HT_.out ?_
        refine un_ 27 49 z5_49 HT_.out ?_
        refine un_ 28 50 z5_29 HT_.out ?_
        refine un_ 29 51 z5_30 HT_.out ?_
        refine un_ 30 52 z5_31 HT_.out ?_
        refine un_ 31 53 z5_32 HT_.out ?_
        refine un_ 32 54 z5_33 HT_.out ?_
        refine un_ 33 55 z5_34 HT_.out ?_
        refine pu_ 34 56 z5_35 HT_.out ?_
        refine pu_ 35 57 z5_36 HT_.out ?_
        refine un_ 36 58 z5_37 HT_.out ?_
        refine un_ 37 59 z5_38 HT_.out ?_
        refine un_ 38 60 z5_39 HT_.out ?_
        refine un_ 39 61 z5_40 HT_.out ?_
        refine pu_ 40 62 z5_41 HT_.out ?_
        refine done_ (done_of HT_.out (by kernel_rfl)) ?_
        try go_wp2
        go_meet
        case rel => exact ⟨_, (true), ns_, H', ⟨by have := HJ2.out; have := HK2.out; first | omega | exact Nat.le_refl _⟩, ⟨nb_ BK221.out⟩, ⟨nb_ BK224.out⟩, ⟨ne_ HB.out⟩⟩
       subst c22
       rw [if_pos rfl] at H
       by_cases c23 : 0 ≤ ((rd_T31 l1 x17_2).f0)
       rotate_left
       ·rw [if_neg c23] at H
        exact absurd H (by simp)
       rw [if_pos c23] at H
       have c23b0 : decide (0 ≤ ((rd_T31 l1 x17_2).f0)) = true := decide_eq_true c23
       clear c23
       (first | rw [c23b0] | (simp only [i64_w, i32_w]; rw [c23b0]) | skip)
       by_cases c24 : ((rd_T31 l1 x17_2).f0) < (l0_1.length : Int)
       rotate_left
       ·rw [if_neg c24] at H
        exact absurd H (by simp)
       rw [if_pos c24] at H
       have c24b0 : decide (((rd_T31 l1 x17_2).f0) < (l0_1.length : Int)) = true := decide_eq_true c24
       clear c24
       by_cases c25 : 0 ≤ ((rd_T31 l1 x17_2).f1)
       rotate_left
       ·rw [if_neg c25] at H
        exact absurd H (by simp)
       rw [if_pos c25] at H
       have c25b0 : decide (0 ≤ ((rd_T31 l1 x17_2).f1)) = true := decide_eq_true c25
       clear c25
       by_cases c26 : ((rd_T31 l1 x17_2).f1) < (l0_1.length : Int)
       rotate_left
       ·rw [if_neg c26] at H
        exact absurd H (by simp)
       rw [if_pos c26] at H
       have c26b0 : decide (((rd_T31 l1 x17_2).f1) < (l0_1.length : Int)) = true := decide_eq_true c26
       clear c26
       by_cases c27 : ((rd_T33 l0_1 ((rd_T31 l1 x17_2).f0)).f1) = ((rd_T33 l0_1 ((rd_T31 l1 x17_2).f1)).f0)
       rotate_left
       ·rw [if_neg c27] at H
        have c27b0 : (((rd_T33 l0_1 ((rd_T31 l1 x17_2).f0)).f1) == ((rd_T33 l0_1 ((rd_T31 l1 x17_2).f1)).f0)) = false := beq_eq_false_iff_ne.mpr c27
        have c27b1 : (((rd_T33 l0_1 ((rd_T31 l1 x17_2).f0)).f1) != ((rd_T33 l0_1 ((rd_T31 l1 x17_2).f1)).f0)) = true := bne_iff_ne.mpr c27
        have H' := Aside0.mk H
        clear H
        try go_wp2
        have n0_ : Aside0 ((((w16.setCell ⟨gb224, 0, none⟩ (.int .i64 ((rd_T31 l1 x17_2).f0))).setCell ⟨gb224, 1, none⟩ (.int .i64 ((rd_T31 l1 x17_2).f1))).setCell ⟨gb224, 2, none⟩ (.int .i64 ((rd_T31 l1 x17_2).f2))).heap[gb221]? = some (.cells #[.int .i64 a0_0, .slice A0_1 l0_1.length c0_1] 25 (0, 0))) := ⟨np_ BK221.out⟩
        have n1_ : Aside0 ((((w16.setCell ⟨gb224, 0, none⟩ (.int .i64 ((rd_T31 l1 x17_2).f0))).setCell ⟨gb224, 1, none⟩ (.int .i64 ((rd_T31 l1 x17_2).f1))).setCell ⟨gb224, 2, none⟩ (.int .i64 ((rd_T31 l1 x17_2).f2))).heap[gb224]? = some (.cells #[.int .i64 ((rd_T31 l1 x17_2).f0), .int .i64 ((rd_T31 l1 x17_2).f1), .int .i64 ((rd_T31 l1 x17_2).f2)] 31 (0, 0))) := ⟨np_ BK224.out⟩
        have n2_ : Aside0 (Below w.heap.size w (((w16.setCell ⟨gb224, 0, none⟩ (.int .i64 ((rd_T31 l1 x17_2).f0))).setCell ⟨gb224, 1, none⟩ (.int .i64 ((rd_T31 l1 x17_2).f1))).setCell ⟨gb224, 2, none⟩ (.int .i64 ((rd_T31 l1 x17_2).f2)))) := ⟨ne_ HB.out⟩
        (try clear BK221)
        (try clear BK224)
        (try clear HB)
        generalize (((w16.setCell ⟨gb224, 0, none⟩ (.int .i64 ((rd_T31 l1 x17_2).f0))).setCell ⟨gb224, 1, none⟩ (.int .i64 ((rd_T31 l1 x17_2).f1))).setCell ⟨gb224, 2, none⟩ (.int .i64 ((rd_T31 l1 x17_2).f2))) = w31 at n0_ n1_ n2_ ⊢
        have BK221 := n0_
        have BK224 := n1_
        have HB := n2_
        clear n0_ n1_ n2_
        replace BK221 := Aside0.mk (blk_drew BK221.out)
        replace BK224 := Aside0.mk (blk_drew BK224.out)
        replace HB := Aside0.mk (below_drew1 HB.out)
        have p227 : 0 ≤ (((rd_T31 l1 x17_2).f0) : Int) := of_decide_eq_true nx_
        have q227 : ((rd_T31 l1 x17_2).f0) < (l0_1.length : Int) := of_decide_eq_true nx_
        obtain ⟨ad227, e227, hx227_0, hx227_1, hx227_2, hx227_3, hx227_4⟩ := at_T33 HR0_1.out ((rd_T31 l1 x17_2).f0) p227 q227
        have hw227_4 := hx227_4
        have hw227_3 := hx227_3
        have hw227_2 := hx227_2
        have hw227_1 := hx227_1
        have hw227_0 := hx227_0
        cases e227
        replace hx227_0 := hb_ HB.out hx227_0
        replace hx227_1 := hb_ HB.out hx227_1
        replace hx227_2 := hb_ HB.out hx227_2
        replace hx227_3 := hb_ HB.out hx227_3
        replace hx227_4 := hb_ HB.out hx227_4
        replace p227 := eq_true p227
        replace q227 := eq_true q227
        have p228 : 0 ≤ (((rd_T31 l1 x17_2).f1) : Int) := of_decide_eq_true nx_
        have q228 : ((rd_T31 l1 x17_2).f1) < (l0_1.length : Int) := of_decide_eq_true nx_
        obtain ⟨ad228, e228, hx228_0, hx228_1, hx228_2, hx228_3, hx228_4⟩ := at_T33 HR0_1.out ((rd_T31 l1 x17_2).f1) p228 q228
        have hw228_4 := hx228_4
        have hw228_3 := hx228_3
        have hw228_2 := hx228_2
        have hw228_1 := hx228_1
        have hw228_0 := hx228_0
        obtain rfl : ad227 = ad228 := (by injection e228)
        replace hx228_0 := hb_ HB.out hx228_0
        replace hx228_1 := hb_ HB.out hx228_1
        replace hx228_2 := hb_ HB.out hx228_2
        replace hx228_3 := hb_ HB.out hx228_3
        replace hx228_4 := hb_ HB.out hx228_4
        replace p228 := eq_true p228
        replace q228 := eq_true q228
        refine start_ (n := 41) (S := fun w' => w'.cell? ⟨gb224, 0, none⟩ = some (.int .i64 ((rd_T31 l1 x17_2).f0)) ∧ w'.cell? ⟨gb224, 1, none⟩ = some (.int .i64 ((rd_T31 l1 x17_2).f1)) ∧ w'.cell? ⟨gb224, 2, none⟩ = some (.int .i64 ((rd_T31 l1 x17_2).f2)) ∧ w'.cell? ⟨gb221, 0, none⟩ = some (.int .i64 a0_0) ∧ w'.cell? ⟨gb221, 1, none⟩ = some (.slice (some ad227) l0_1.length c0_1) ∧ w'.cell? (ad227.add ((((rd_T31 l1 x17_2).f0)).toNat * 5)) = some (.int .i64 ((rd_T33 l0_1 ((rd_T31 l1 x17_2).f0)).f0)) ∧ w'.cell? ⟨(ad227.add ((((rd_T31 l1 x17_2).f0)).toNat * 5)).block, (ad227.add ((((rd_T31 l1 x17_2).f0)).toNat * 5)).off + 1, none⟩ = some (.int .i64 ((rd_T33 l0_1 ((rd_T31 l1 x17_2).f0)).f1)) ∧ w'.cell? ⟨(ad227.add ((((rd_T31 l1 x17_2).f0)).toNat * 5)).block, (ad227.add ((((rd_T31 l1 x17_2).f0)).toNat * 5)).off + 2, none⟩ = some (.int .i64 ((rd_T33 l0_1 ((rd_T31 l1 x17_2).f0)).f2)) ∧ w'.cell? ⟨(ad227.add ((((rd_T31 l1 x17_2).f0)).toNat * 5)).block, (ad227.add ((((rd_T31 l1 x17_2).f0)).toNat * 5)).off + 3, none⟩ = some (.int .i64 ((rd_T33 l0_1 ((rd_T31 l1 x17_2).f0)).f3)) ∧ w'.cell? ⟨(ad227.add ((((rd_T31 l1 x17_2).f0)).toNat * 5)).block, (ad227.add ((((rd_T31 l1 x17_2).f0)).toNat * 5)).off + 4, none⟩ = some (.int .i64 ((rd_T33 l0_1 ((rd_T31 l1 x17_2).f0)).f4)) ∧ w'.cell? (ad227.add ((((rd_T31 l1 x17_2).f1)).toNat * 5)) = some (.int .i64 ((rd_T33 l0_1 ((rd_T31 l1 x17_2).f1)).f0)) ∧ w'.cell? ⟨(ad227.add ((((rd_T31 l1 x17_2).f1)).toNat * 5)).block, (ad227.add ((((rd_T31 l1 x17_2).f1)).toNat * 5)).off + 1, none⟩ = some (.int .i64 ((rd_T33 l0_1 ((rd_T31 l1 x17_2).f1)).f1)) ∧ w'.cell? ⟨(ad227.add ((((rd_T31 l1 x17_2).f1)).toNat * 5)).block, (ad227.add ((((rd_T31 l1 x17_2).f1)).toNat * 5)).off + 2, none⟩ = some (.int .i64 ((rd_T33 l0_1 ((rd_T31 l1 x17_2).f1)).f2)) ∧ w'.cell? ⟨(ad227.add ((((rd_T31 l1 x17_2).f1)).toNat * 5)).block, (ad227.add ((((rd_T31 l1 x17_2).f1)).toNat * 5)).off + 3, none⟩ = some (.int .i64 ((rd_T33 l0_1 ((rd_T31 l1 x17_2).f1)).f3)) ∧ w'.cell? ⟨(ad227.add ((((rd_T31 l1 x17_2).f1)).toNat * 5)).block, (ad227.add ((((rd_T31 l1 x17_2).f1)).toNat * 5)).off + 4, none⟩ = some (.int .i64 ((rd_T33 l0_1 ((rd_T31 l1 x17_2).f1)).f4))) (ds := []) z5_0 (by kernel_rfl) rfl rfl ⟨ct_ BK224.out 0, ct_ BK224.out 1, ct_ BK224.out 2, ct_ BK221.out 0, ct_ BK221.out 1, ((HB.out.cell (World.block_lt_of_cell? w _ hw227_0)).trans hw227_0), ((HB.out.cell (World.block_lt_of_cell? w _ hw227_1)).trans hw227_1), ((HB.out.cell (World.block_lt_of_cell? w _ hw227_2)).trans hw227_2), ((HB.out.cell (World.block_lt_of_cell? w _ hw227_3)).trans hw227_3), ((HB.out.cell (World.block_lt_of_cell? w _ hw227_4)).trans hw227_4), ((HB.out.cell (World.block_lt_of_cell? w _ hw228_0)).trans hw228_0), ((HB.out.cell (World.block_lt_of_cell? w _ hw228_1)).trans hw228_1), ((HB.out.cell (World.block_lt_of_cell? w _ hw228_2)).trans hw228_2), ((HB.out.cell (World.block_lt_of_cell? w _ hw228_3)).trans hw228_3), ((HB.out.cell (World.block_lt_of_cell? w _ hw228_4)).trans hw228_4)⟩ (fun hHeld => ?_); refine with_tabW impl_TurnsOk.tab6 impl_TurnsOk.bits6 (fun HT_ HW_ => ?_)
        generalize w31.drew = w32 at BK221 BK224 HB hx227_0 hx227_1 hx227_2 hx227_3 hx227_4 hx228_0 hx228_1 hx228_2 hx228_3 hx228_4 hHeld ⊢
        refine pu_ 0 22 z5_1 HT_.out ?_
        refine pu_ 2 24 z5_2 HT_.out ?_
        refine tk_ 1 23 z5_3 HT_.out HW_.out hHeld ?_
        refine tk_ 3 25 z5_4 HT_.out HW_.out hHeld ?_
        refine pu_ 4 26 z5_5 HT_.out ?_
        refine pu_ 5 27 z5_6 HT_.out ?_
        refine one_ (i := 6) (N := some 28) z5_7 rfl rfl (one_of HT_.out (by kernel_rfl)) (by decide) (fun K hK => ?_)
        refine go_ Try.func11 #[.int .i64 ((rd_T31 l1 x17_2).f0), .int .i64 0, .int .i64 (wrap64 ((l0_1.length : Int) - 1))] ?_
        with_reducible refine (impl_within.calls ((rd_T31 l1 x17_2).f0) 0 (wrap64 ((l0_1.length : Int) - 1)) true _ A19.out).mono ?_
        rintro e w' ⟨rfl, ⟨nd, rfl⟩⟩
        refine ⟨_, rfl, ?_⟩
        refine hK.out _ _ ⟨ct_ BK224.out 0, ct_ BK224.out 1, ct_ BK224.out 2, ct_ BK221.out 0, ct_ BK221.out 1, ((HB.out.cell (World.block_lt_of_cell? w _ hw227_0)).trans hw227_0), ((HB.out.cell (World.block_lt_of_cell? w _ hw227_1)).trans hw227_1), ((HB.out.cell (World.block_lt_of_cell? w _ hw227_2)).trans hw227_2), ((HB.out.cell (World.block_lt_of_cell? w _ hw227_3)).trans hw227_3), ((HB.out.cell (World.block_lt_of_cell? w _ hw227_4)).trans hw227_4), ((HB.out.cell (World.block_lt_of_cell? w _ hw228_0)).trans hw228_0), ((HB.out.cell (World.block_lt_of_cell? w _ hw228_1)).trans hw228_1), ((HB.out.cell (World.block_lt_of_cell? w _ hw228_2)).trans hw228_2), ((HB.out.cell (World.block_lt_of_cell? w _ hw228_3)).trans hw228_3), ((HB.out.cell (World.block_lt_of_cell? w _ hw228_4)).trans hw228_4)⟩ (fun hHeld => ?_)
        clear hK K
        refine nm1_ (some 28) ?_
        refine pu_ 7 29 z5_8 HT_.out ?_
        refine pu_ 8 30 z5_9 HT_.out ?_
        refine pu_ 9 31 z5_10 HT_.out ?_
        refine pu_ 11 33 z5_11 HT_.out ?_
        refine tk_ 10 32 z5_12 HT_.out HW_.out hHeld ?_
        refine tk_ 12 34 z5_13 HT_.out HW_.out hHeld ?_
        refine pu_ 13 35 z5_14 HT_.out ?_
        refine pu_ 14 36 z5_15 HT_.out ?_
        refine one_ (i := 15) (N := some 37) z5_16 rfl rfl (one_of HT_.out (by kernel_rfl)) (by decide) (fun K hK => ?_)
        refine go_ Try.func11 #[.int .i64 ((rd_T31 l1 x17_2).f1), .int .i64 0, .int .i64 (wrap64 ((l0_1.length : Int) - 1))] ?_
        with_reducible refine (impl_within.calls ((rd_T31 l1 x17_2).f1) 0 (wrap64 ((l0_1.length : Int) - 1)) true _ A21.out).mono ?_
        rintro e w' ⟨rfl, ⟨nd, rfl⟩⟩
        refine ⟨_, rfl, ?_⟩
        refine hK.out _ _ ⟨ct_ BK224.out 0, ct_ BK224.out 1, ct_ BK224.out 2, ct_ BK221.out 0, ct_ BK221.out 1, ((HB.out.cell (World.block_lt_of_cell? w _ hw227_0)).trans hw227_0), ((HB.out.cell (World.block_lt_of_cell? w _ hw227_1)).trans hw227_1), ((HB.out.cell (World.block_lt_of_cell? w _ hw227_2)).trans hw227_2), ((HB.out.cell (World.block_lt_of_cell? w _ hw227_3)).trans hw227_3), ((HB.out.cell (World.block_lt_of_cell? w _ hw227_4)).trans hw227_4), ((HB.out.cell (World.block_lt_of_cell? w _ hw228_0)).trans hw228_0), ((HB.out.cell (World.block_lt_of_cell? w _ hw228_1)).trans hw228_1), ((HB.out.cell (World.block_lt_of_cell? w _ hw228_2)).trans hw228_2), ((HB.out.cell (World.block_lt_of_cell? w _ hw228_3)).trans hw228_3), ((HB.out.cell (World.block_lt_of_cell? w _ hw228_4)).trans hw228_4)⟩ (fun hHeld => ?_)
        clear hK K
        refine nm1_ (some 37) ?_
        refine pu_ 16 38 z5_17 HT_.out ?_
        refine pu_ 17 39 z5_18 HT_.out ?_
        refine pu_ 18 40 z5_19 HT_.out ?_
        refine pu_ 19 41 z5_20 HT_.out ?_
        refine pu_ 21 43 z5_21 HT_.out ?_
        refine pu_ 26 48 z5_22 HT_.out ?_
        refine pu_ 28 50 z5_23 HT_.out ?_
        refine tk_ 20 42 z5_24 HT_.out HW_.out hHeld ?_
        refine tk_ 22 44 z5_25 HT_.out HW_.out hHeld ?_
        refine pu_ 23 45 z5_26 HT_.out ?_
        refine pu_ 24 46 z5_27 HT_.out ?_
        refine tk_ 25 47 z5_28 HT_.out HW_.out hHeld ?_
        refine tk_ 27 49 z5_29 HT_.out HW_.out hHeld ?_
        refine tk_ 29 51 z5_30 HT_.out HW_.out hHeld ?_
        refine pu_ 30 52 z5_31 HT_.out ?_
        refine pu_ 31 53 z5_32 HT_.out ?_
        refine tk_ 32 54 z5_33 HT_.out HW_.out hHeld ?_
        refine pu_ 33 55 z5_34 HT_.out ?_
        refine pu_ 34 56 z5_35 HT_.out ?_
        refine pu_ 35 57 z5_36 HT_.out ?_
        refine un_ 36 58 z5_37 HT_.out ?_
        refine un_ 37 59 z5_38 HT_.out ?_
        refine un_ 38 60 z5_39 HT_.out ?_
        refine un_ 39 61 z5_40 HT_.out ?_
        refine pu_ 40 62 z5_41 HT_.out ?_
        refine done_ (done_of HT_.out (by kernel_rfl)) ?_
        try go_wp2
        go_meet
        case rel => exact ⟨_, (true), ns_, H', ⟨by have := HJ2.out; have := HK2.out; first | omega | exact Nat.le_refl _⟩, ⟨nb_ BK221.out⟩, ⟨nb_ BK224.out⟩, ⟨ne_ HB.out⟩⟩
       rw [if_pos c27] at H
       have c27b0 : (((rd_T33 l0_1 ((rd_T31 l1 x17_2).f0)).f1) == ((rd_T33 l0_1 ((rd_T31 l1 x17_2).f1)).f0)) = true := beq_iff_eq.mpr c27
       have c27b1 : (((rd_T33 l0_1 ((rd_T31 l1 x17_2).f0)).f1) != ((rd_T33 l0_1 ((rd_T31 l1 x17_2).f1)).f0)) = false := bne_eq_false_iff_eq.mpr c27
       clear c27
       replace H := Option.bind_eq_some_iff.mp H
       obtain ⟨t229, A280, H⟩ := H
       try dsimp only at H
       have A28 := Aside0.mk A280
       clear A280
       have H' := Aside0.mk H
       clear H
       try go_wp2
       have n0_ : Aside0 ((((w16.setCell ⟨gb224, 0, none⟩ (.int .i64 ((rd_T31 l1 x17_2).f0))).setCell ⟨gb224, 1, none⟩ (.int .i64 ((rd_T31 l1 x17_2).f1))).setCell ⟨gb224, 2, none⟩ (.int .i64 ((rd_T31 l1 x17_2).f2))).heap[gb221]? = some (.cells #[.int .i64 a0_0, .slice A0_1 l0_1.length c0_1] 25 (0, 0))) := ⟨np_ BK221.out⟩
       have n1_ : Aside0 ((((w16.setCell ⟨gb224, 0, none⟩ (.int .i64 ((rd_T31 l1 x17_2).f0))).setCell ⟨gb224, 1, none⟩ (.int .i64 ((rd_T31 l1 x17_2).f1))).setCell ⟨gb224, 2, none⟩ (.int .i64 ((rd_T31 l1 x17_2).f2))).heap[gb224]? = some (.cells #[.int .i64 ((rd_T31 l1 x17_2).f0), .int .i64 ((rd_T31 l1 x17_2).f1), .int .i64 ((rd_T31 l1 x17_2).f2)] 31 (0, 0))) := ⟨np_ BK224.out⟩
       have n2_ : Aside0 (Below w.heap.size w (((w16.setCell ⟨gb224, 0, none⟩ (.int .i64 ((rd_T31 l1 x17_2).f0))).setCell ⟨gb224, 1, none⟩ (.int .i64 ((rd_T31 l1 x17_2).f1))).setCell ⟨gb224, 2, none⟩ (.int .i64 ((rd_T31 l1 x17_2).f2)))) := ⟨ne_ HB.out⟩
       (try clear BK221)
       (try clear BK224)
       (try clear HB)
       generalize (((w16.setCell ⟨gb224, 0, none⟩ (.int .i64 ((rd_T31 l1 x17_2).f0))).setCell ⟨gb224, 1, none⟩ (.int .i64 ((rd_T31 l1 x17_2).f1))).setCell ⟨gb224, 2, none⟩ (.int .i64 ((rd_T31 l1 x17_2).f2))) = w29 at n0_ n1_ n2_ ⊢
       have BK221 := n0_
       have BK224 := n1_
       have HB := n2_
       clear n0_ n1_ n2_
       replace BK221 := Aside0.mk (blk_drew BK221.out)
       replace BK224 := Aside0.mk (blk_drew BK224.out)
       replace HB := Aside0.mk (below_drew1 HB.out)
       have p227 : 0 ≤ (((rd_T31 l1 x17_2).f0) : Int) := of_decide_eq_true nx_
       have q227 : ((rd_T31 l1 x17_2).f0) < (l0_1.length : Int) := of_decide_eq_true nx_
       obtain ⟨ad227, e227, hx227_0, hx227_1, hx227_2, hx227_3, hx227_4⟩ := at_T33 HR0_1.out ((rd_T31 l1 x17_2).f0) p227 q227
       have hw227_4 := hx227_4
       have hw227_3 := hx227_3
       have hw227_2 := hx227_2
       have hw227_1 := hx227_1
       have hw227_0 := hx227_0
       cases e227
       replace hx227_0 := hb_ HB.out hx227_0
       replace hx227_1 := hb_ HB.out hx227_1
       replace hx227_2 := hb_ HB.out hx227_2
       replace hx227_3 := hb_ HB.out hx227_3
       replace hx227_4 := hb_ HB.out hx227_4
       replace p227 := eq_true p227
       replace q227 := eq_true q227
       have p228 : 0 ≤ (((rd_T31 l1 x17_2).f1) : Int) := of_decide_eq_true nx_
       have q228 : ((rd_T31 l1 x17_2).f1) < (l0_1.length : Int) := of_decide_eq_true nx_
       obtain ⟨ad228, e228, hx228_0, hx228_1, hx228_2, hx228_3, hx228_4⟩ := at_T33 HR0_1.out ((rd_T31 l1 x17_2).f1) p228 q228
       have hw228_4 := hx228_4
       have hw228_3 := hx228_3
       have hw228_2 := hx228_2
       have hw228_1 := hx228_1
       have hw228_0 := hx228_0
       obtain rfl : ad227 = ad228 := (by injection e228)
       replace hx228_0 := hb_ HB.out hx228_0
       replace hx228_1 := hb_ HB.out hx228_1
       replace hx228_2 := hb_ HB.out hx228_2
       replace hx228_3 := hb_ HB.out hx228_3
       replace hx228_4 := hb_ HB.out hx228_4
       replace p228 := eq_true p228
       replace q228 := eq_true q228
       refine start_ (n := 41) (S := fun w' => w'.cell? ⟨gb224, 0, none⟩ = some (.int .i64 ((rd_T31 l1 x17_2).f0)) ∧ w'.cell? ⟨gb224, 1, none⟩ = some (.int .i64 ((rd_T31 l1 x17_2).f1)) ∧ w'.cell? ⟨gb224, 2, none⟩ = some (.int .i64 ((rd_T31 l1 x17_2).f2)) ∧ w'.cell? ⟨gb221, 0, none⟩ = some (.int .i64 a0_0) ∧ w'.cell? ⟨gb221, 1, none⟩ = some (.slice (some ad227) l0_1.length c0_1) ∧ w'.cell? (ad227.add ((((rd_T31 l1 x17_2).f0)).toNat * 5)) = some (.int .i64 ((rd_T33 l0_1 ((rd_T31 l1 x17_2).f0)).f0)) ∧ w'.cell? ⟨(ad227.add ((((rd_T31 l1 x17_2).f0)).toNat * 5)).block, (ad227.add ((((rd_T31 l1 x17_2).f0)).toNat * 5)).off + 1, none⟩ = some (.int .i64 ((rd_T33 l0_1 ((rd_T31 l1 x17_2).f0)).f1)) ∧ w'.cell? ⟨(ad227.add ((((rd_T31 l1 x17_2).f0)).toNat * 5)).block, (ad227.add ((((rd_T31 l1 x17_2).f0)).toNat * 5)).off + 2, none⟩ = some (.int .i64 ((rd_T33 l0_1 ((rd_T31 l1 x17_2).f0)).f2)) ∧ w'.cell? ⟨(ad227.add ((((rd_T31 l1 x17_2).f0)).toNat * 5)).block, (ad227.add ((((rd_T31 l1 x17_2).f0)).toNat * 5)).off + 3, none⟩ = some (.int .i64 ((rd_T33 l0_1 ((rd_T31 l1 x17_2).f0)).f3)) ∧ w'.cell? ⟨(ad227.add ((((rd_T31 l1 x17_2).f0)).toNat * 5)).block, (ad227.add ((((rd_T31 l1 x17_2).f0)).toNat * 5)).off + 4, none⟩ = some (.int .i64 ((rd_T33 l0_1 ((rd_T31 l1 x17_2).f0)).f4)) ∧ w'.cell? (ad227.add ((((rd_T31 l1 x17_2).f1)).toNat * 5)) = some (.int .i64 ((rd_T33 l0_1 ((rd_T31 l1 x17_2).f1)).f0)) ∧ w'.cell? ⟨(ad227.add ((((rd_T31 l1 x17_2).f1)).toNat * 5)).block, (ad227.add ((((rd_T31 l1 x17_2).f1)).toNat * 5)).off + 1, none⟩ = some (.int .i64 ((rd_T33 l0_1 ((rd_T31 l1 x17_2).f1)).f1)) ∧ w'.cell? ⟨(ad227.add ((((rd_T31 l1 x17_2).f1)).toNat * 5)).block, (ad227.add ((((rd_T31 l1 x17_2).f1)).toNat * 5)).off + 2, none⟩ = some (.int .i64 ((rd_T33 l0_1 ((rd_T31 l1 x17_2).f1)).f2)) ∧ w'.cell? ⟨(ad227.add ((((rd_T31 l1 x17_2).f1)).toNat * 5)).block, (ad227.add ((((rd_T31 l1 x17_2).f1)).toNat * 5)).off + 3, none⟩ = some (.int .i64 ((rd_T33 l0_1 ((rd_T31 l1 x17_2).f1)).f3)) ∧ w'.cell? ⟨(ad227.add ((((rd_T31 l1 x17_2).f1)).toNat * 5)).block, (ad227.add ((((rd_T31 l1 x17_2).f1)).toNat * 5)).off + 4, none⟩ = some (.int .i64 ((rd_T33 l0_1 ((rd_T31 l1 x17_2).f1)).f4))) (ds := []) z5_0 (by kernel_rfl) rfl rfl ⟨ct_ BK224.out 0, ct_ BK224.out 1, ct_ BK224.out 2, ct_ BK221.out 0, ct_ BK221.out 1, ((HB.out.cell (World.block_lt_of_cell? w _ hw227_0)).trans hw227_0), ((HB.out.cell (World.block_lt_of_cell? w _ hw227_1)).trans hw227_1), ((HB.out.cell (World.block_lt_of_cell? w _ hw227_2)).trans hw227_2), ((HB.out.cell (World.block_lt_of_cell? w _ hw227_3)).trans hw227_3), ((HB.out.cell (World.block_lt_of_cell? w _ hw227_4)).trans hw227_4), ((HB.out.cell (World.block_lt_of_cell? w _ hw228_0)).trans hw228_0), ((HB.out.cell (World.block_lt_of_cell? w _ hw228_1)).trans hw228_1), ((HB.out.cell (World.block_lt_of_cell? w _ hw228_2)).trans hw228_2), ((HB.out.cell (World.block_lt_of_cell? w _ hw228_3)).trans hw228_3), ((HB.out.cell (World.block_lt_of_cell? w _ hw228_4)).trans hw228_4)⟩ (fun hHeld => ?_); refine with_tabW impl_TurnsOk.tab6 impl_TurnsOk.bits6 (fun HT_ HW_ => ?_)
       generalize w29.drew = w30 at BK221 BK224 HB hx227_0 hx227_1 hx227_2 hx227_3 hx227_4 hx228_0 hx228_1 hx228_2 hx228_3 hx228_4 hHeld ⊢
       refine pu_ 0 22 z5_1 HT_.out ?_
       refine pu_ 2 24 z5_2 HT_.out ?_
       refine tk_ 1 23 z5_3 HT_.out HW_.out hHeld ?_
       refine tk_ 3 25 z5_4 HT_.out HW_.out hHeld ?_
       refine pu_ 4 26 z5_5 HT_.out ?_
       refine pu_ 5 27 z5_6 HT_.out ?_
       refine one_ (i := 6) (N := some 28) z5_7 rfl rfl (one_of HT_.out (by kernel_rfl)) (by decide) (fun K hK => ?_)
       refine go_ Try.func11 #[.int .i64 ((rd_T31 l1 x17_2).f0), .int .i64 0, .int .i64 (wrap64 ((l0_1.length : Int) - 1))] ?_
       with_reducible refine (impl_within.calls ((rd_T31 l1 x17_2).f0) 0 (wrap64 ((l0_1.length : Int) - 1)) true _ A19.out).mono ?_
       rintro e w' ⟨rfl, ⟨nd, rfl⟩⟩
       refine ⟨_, rfl, ?_⟩
       refine hK.out _ _ ⟨ct_ BK224.out 0, ct_ BK224.out 1, ct_ BK224.out 2, ct_ BK221.out 0, ct_ BK221.out 1, ((HB.out.cell (World.block_lt_of_cell? w _ hw227_0)).trans hw227_0), ((HB.out.cell (World.block_lt_of_cell? w _ hw227_1)).trans hw227_1), ((HB.out.cell (World.block_lt_of_cell? w _ hw227_2)).trans hw227_2), ((HB.out.cell (World.block_lt_of_cell? w _ hw227_3)).trans hw227_3), ((HB.out.cell (World.block_lt_of_cell? w _ hw227_4)).trans hw227_4), ((HB.out.cell (World.block_lt_of_cell? w _ hw228_0)).trans hw228_0), ((HB.out.cell (World.block_lt_of_cell? w _ hw228_1)).trans hw228_1), ((HB.out.cell (World.block_lt_of_cell? w _ hw228_2)).trans hw228_2), ((HB.out.cell (World.block_lt_of_cell? w _ hw228_3)).trans hw228_3), ((HB.out.cell (World.block_lt_of_cell? w _ hw228_4)).trans hw228_4)⟩ (fun hHeld => ?_)
       clear hK K
       refine nm1_ (some 28) ?_
       refine pu_ 7 29 z5_8 HT_.out ?_
       refine pu_ 8 30 z5_9 HT_.out ?_
       refine pu_ 9 31 z5_10 HT_.out ?_
       refine pu_ 11 33 z5_11 HT_.out ?_
       refine tk_ 10 32 z5_12 HT_.out HW_.out hHeld ?_
       refine tk_ 12 34 z5_13 HT_.out HW_.out hHeld ?_
       refine pu_ 13 35 z5_14 HT_.out ?_
       refine pu_ 14 36 z5_15 HT_.out ?_
       refine one_ (i := 15) (N := some 37) z5_16 rfl rfl (one_of HT_.out (by kernel_rfl)) (by decide) (fun K hK => ?_)
       refine go_ Try.func11 #[.int .i64 ((rd_T31 l1 x17_2).f1), .int .i64 0, .int .i64 (wrap64 ((l0_1.length : Int) - 1))] ?_
       with_reducible refine (impl_within.calls ((rd_T31 l1 x17_2).f1) 0 (wrap64 ((l0_1.length : Int) - 1)) true _ A21.out).mono ?_
       rintro e w' ⟨rfl, ⟨nd, rfl⟩⟩
       refine ⟨_, rfl, ?_⟩
       refine hK.out _ _ ⟨ct_ BK224.out 0, ct_ BK224.out 1, ct_ BK224.out 2, ct_ BK221.out 0, ct_ BK221.out 1, ((HB.out.cell (World.block_lt_of_cell? w _ hw227_0)).trans hw227_0), ((HB.out.cell (World.block_lt_of_cell? w _ hw227_1)).trans hw227_1), ((HB.out.cell (World.block_lt_of_cell? w _ hw227_2)).trans hw227_2), ((HB.out.cell (World.block_lt_of_cell? w _ hw227_3)).trans hw227_3), ((HB.out.cell (World.block_lt_of_cell? w _ hw227_4)).trans hw227_4), ((HB.out.cell (World.block_lt_of_cell? w _ hw228_0)).trans hw228_0), ((HB.out.cell (World.block_lt_of_cell? w _ hw228_1)).trans hw228_1), ((HB.out.cell (World.block_lt_of_cell? w _ hw228_2)).trans hw228_2), ((HB.out.cell (World.block_lt_of_cell? w _ hw228_3)).trans hw228_3), ((HB.out.cell (World.block_lt_of_cell? w _ hw228_4)).trans hw228_4)⟩ (fun hHeld => ?_)
       clear hK K
       refine nm1_ (some 37) ?_
       refine pu_ 16 38 z5_17 HT_.out ?_
       refine pu_ 17 39 z5_18 HT_.out ?_
       refine pu_ 18 40 z5_19 HT_.out ?_
       refine pu_ 19 41 z5_20 HT_.out ?_
       refine pu_ 21 43 z5_21 HT_.out ?_
       refine pu_ 26 48 z5_22 HT_.out ?_
       refine pu_ 28 50 z5_23 HT_.out ?_
       refine tk_ 20 42 z5_24 HT_.out HW_.out hHeld ?_
       refine tk_ 22 44 z5_25 HT_.out HW_.out hHeld ?_
       refine pu_ 23 45 z5_26 HT_.out ?_
       refine pu_ 24 46 z5_27 HT_.out ?_
       refine tk_ 25 47 z5_28 HT_.out HW_.out hHeld ?_
       refine tk_ 27 49 z5_29 HT_.out HW_.out hHeld ?_
       refine tk_ 29 51 z5_30 HT_.out HW_.out hHeld ?_
       refine pu_ 30 52 z5_31 HT_.out ?_
       refine pu_ 31 53 z5_32 HT_.out ?_
       refine tk_ 32 54 z5_33 HT_.out HW_.out hHeld ?_
       refine pu_ 33 55 z5_34 HT_.out ?_
       refine pu_ 34 56 z5_35 HT_.out ?_
       refine pu_ 35 57 z5_36 HT_.out ?_
       refine pu_ 36 58 z5_37 HT_.out ?_
       refine tk_ 37 59 z5_38 HT_.out HW_.out hHeld ?_
       refine one_ (i := 38) (N := some 60) z5_39 rfl rfl (one_of HT_.out (by kernel_rfl)) (by decide) (fun K hK => ?_)
       refine go_ Try.func11 #[.int .i64 ((rd_T31 l1 x17_2).f2), .int .i64 (-1), .int .i64 99] ?_
       with_reducible refine (impl_within.calls ((rd_T31 l1 x17_2).f2) (-1) 99 t229 _ A28.out).mono ?_
       rintro e w' ⟨rfl, ⟨nd, rfl⟩⟩
       refine ⟨_, rfl, ?_⟩
       refine hK.out _ _ ⟨ct_ BK224.out 0, ct_ BK224.out 1, ct_ BK224.out 2, ct_ BK221.out 0, ct_ BK221.out 1, ((HB.out.cell (World.block_lt_of_cell? w _ hw227_0)).trans hw227_0), ((HB.out.cell (World.block_lt_of_cell? w _ hw227_1)).trans hw227_1), ((HB.out.cell (World.block_lt_of_cell? w _ hw227_2)).trans hw227_2), ((HB.out.cell (World.block_lt_of_cell? w _ hw227_3)).trans hw227_3), ((HB.out.cell (World.block_lt_of_cell? w _ hw227_4)).trans hw227_4), ((HB.out.cell (World.block_lt_of_cell? w _ hw228_0)).trans hw228_0), ((HB.out.cell (World.block_lt_of_cell? w _ hw228_1)).trans hw228_1), ((HB.out.cell (World.block_lt_of_cell? w _ hw228_2)).trans hw228_2), ((HB.out.cell (World.block_lt_of_cell? w _ hw228_3)).trans hw228_3), ((HB.out.cell (World.block_lt_of_cell? w _ hw228_4)).trans hw228_4)⟩ (fun hHeld => ?_)
       clear hK K
       refine nm1_ (some 60) ?_
       refine pu_ 39 61 z5_40 HT_.out ?_
       refine pu_ 40 62 z5_41 HT_.out ?_
       refine done_ (done_of HT_.out (by kernel_rfl)) ?_
       try go_wp2
       go_meet
       case rel => exact ⟨_, (!t229), ns_, H', ⟨by have := HJ2.out; have := HK2.out; first | omega | exact Nat.le_refl _⟩, ⟨nb_ BK221.out⟩, ⟨nb_ BK224.out⟩, ⟨ne_ HB.out⟩⟩
      case rest =>
       clear HC15
       try clear c1
       try clear c11
       obtain ⟨kq, x62_14, rfl, HA, HJ14, BK221, BK224, HB⟩ := hcut
       cases kq with
       | zero => exact absurd HA.out (by simp [impl_TurnsOk.j2])
       | succ kj14 =>
        have H := HA.out
        clear HA
        simp only [impl_TurnsOk.j2] at H
        by_cases c37 : x62_14 = true
        ·subst c37
         have H1 : (some false) = some r := by rw [if_pos rfl] at H; exact H
         clear H
         have H := H1
         clear H1
         obtain rfl := Option.some.inj H
         go_wp2
         go_ret
         exact ⟨nw_, ne_ HB.out⟩
        replace c37 := Bool.eq_false_iff.mpr c37
        subst c37
        have H1 : (if 0 ≤ x17_2 then (if x17_2 ≤ (l1.length : Int) then ((impl_Turn_12.f (l1.take (x17_2 : Int).toNat) ((rd_T31 l1 x17_2).f0) ((rd_T31 l1 x17_2).f1) ((rd_T31 l1 x17_2).f2)).bind fun t234 => (if t234 = true then (some false) else (impl_TurnsOk.l0 kj14 l1 l1 (l1.length : Int) (wrap64 (x17_2 + 1)) a0_0 l0_1))) else (none)) else (none)) = some r := by rw [if_neg (show ¬ (false = true) by decide)] at H; exact H
        clear H
        have H := H1
        clear H1
        by_cases c38 : 0 ≤ x17_2
        rotate_left
        ·rw [if_neg c38] at H
         exact absurd H (by simp)
        rw [if_pos c38] at H
        have c38b0 := eq_true c38
        have c38b1 : decide (0 ≤ x17_2) = true := decide_eq_true c38
        clear c38
        by_cases c39 : x17_2 ≤ (l1.length : Int)
        rotate_left
        ·rw [if_neg c39] at H
         exact absurd H (by simp)
        rw [if_pos c39] at H
        have c39b0 := eq_true c39
        have c39b1 : decide (x17_2 ≤ (l1.length : Int)) = true := decide_eq_true c39
        clear c39
        obtain ⟨y230, hy230⟩ : ∃ y_ : List (S31), y_ = (l1.take (x17_2 : Int).toNat) := ⟨_, rfl⟩
        replace H : ((impl_Turn_12.f y230 ((rd_T31 l1 x17_2).f0) ((rd_T31 l1 x17_2).f1) ((rd_T31 l1 x17_2).f2)).bind fun t234 => (if t234 = true then (some false) else (impl_TurnsOk.l0 kj14 l1 l1 (l1.length : Int) (wrap64 (x17_2 + 1)) a0_0 l0_1))) = some r := by first | (rw [hy230]; with_reducible exact H) | (have H2_ := (Option.bind_some _ _).symm.trans H; rw [hy230]; with_reducible exact H2_) | (have H2_ := (Option.bind_some _ _).symm.trans H; with_reducible exact H2_) | with_reducible exact H | (rw [hy230]; exact H) | exact H
        have Ny230 := Aside0.mk hy230
        clear hy230
        replace H := Option.bind_eq_some_iff.mp H
        obtain ⟨t234, A400, H⟩ := H
        try dsimp only at H
        have A40 := Aside0.mk A400
        clear A400
        by_cases c41 : t234 = true
        ·subst c41
         have H1 : (some false) = some r := by rw [if_pos rfl] at H; exact H
         clear H
         have H := H1
         clear H1
         obtain rfl := Option.some.inj H
         have q42 : (x17_2 : Int) ≤ ((l1.length : Int) : Int) := of_decide_eq_true nx_
         obtain ⟨i042, hi042, _, hsz42, _⟩ := info_parts info31
         have hroom42 : l1.length ≤ c1 := HC1.out
         have hC42 : Kd.C k31 _ (some ad223) l1.length l1 := HR1.out
         have hcut42 := cut_to (P := Try.prog) 26 31 .i64 Try.underlying26 hi042 (some ad223) l1.length c1 x17_2 (of_decide_eq_true nx_) q42 hroom42
         have hr42 := Kd.C_take (m := (x17_2 : Int).toNat) hC42 (by omega)
         have hy42 : y230.length = (x17_2 : Int).toNat := (by rw [Ny230.out, List.length_take]; omega)
         rw [← Ny230.out] at hr42
         rw [← hy42] at hcut42
         have HR233 := Aside0.mk hr42
         have HC233 := Aside0.mk (show y230.length ≤ c1 from by omega)
         clear hr42 hC42 hroom42 hi042 hsz42
         have KY42 := Aside0.mk hy42
         clear hy42
         replace q42 := eq_true q42
         have hnb43 := NB224_221.out
         have hnc43 := NB221_224.out
         obtain ⟨hcz44_0, hcz44_1, hcz44_2, hfz44_0, hfz44_1, hfz44_2⟩ := cz3_ BK224.out
         go_wp2_with (first | ((with_reducible refine gate_callee (f := 12) rfl ?_); refine gl_ (some 67) Try.func12 #[.slice (some ad223) y230.length c1, .func (.func 13) #[] #[.pointer (some ⟨gb224, 0, none⟩)]] ?_; (with_reducible refine (impl_Turn_12.callsB gb224 _ _ y230 ((rd_T31 l1 x17_2).f0) ((rd_T31 l1 x17_2).f1) ((rd_T31 l1 x17_2).f2) true _ ?side1 ?side2 (np_ BK224.out) A40.out).mono ?_); (case side1 => exact nc_ (Kd.C_below HR233.out HB.out)); (case side2 => exact HC233.out); rintro e w45 ⟨rfl, hb⟩; refine ⟨_, rfl, ?_⟩; replace BK221 := kb_ BK221 hb; replace BK224 := kb_ BK224 hb; replace HB := kB_ HB hb; (try clear hb); (try clear hb2); (try clear hk); (try clear hi)))
         go_ret
         exact ⟨nw_, ne_ HB.out⟩
        replace c41 := Bool.eq_false_iff.mpr c41
        subst c41
        have H1 : (impl_TurnsOk.l0 kj14 l1 l1 (l1.length : Int) (wrap64 (x17_2 + 1)) a0_0 l0_1) = some r := by rw [if_neg (show ¬ (false = true) by decide)] at H; exact H
        clear H
        have H := H1
        clear H1
        have H' := Aside0.mk H
        clear H
        have q46 : (x17_2 : Int) ≤ ((l1.length : Int) : Int) := of_decide_eq_true nx_
        obtain ⟨i046, hi046, _, hsz46, _⟩ := info_parts info31
        have hroom46 : l1.length ≤ c1 := HC1.out
        have hC46 : Kd.C k31 _ (some ad223) l1.length l1 := HR1.out
        have hcut46 := cut_to (P := Try.prog) 26 31 .i64 Try.underlying26 hi046 (some ad223) l1.length c1 x17_2 (of_decide_eq_true nx_) q46 hroom46
        have hr46 := Kd.C_take (m := (x17_2 : Int).toNat) hC46 (by omega)
        have hy46 : y230.length = (x17_2 : Int).toNat := (by rw [Ny230.out, List.length_take]; omega)
        rw [← Ny230.out] at hr46
        rw [← hy46] at hcut46
        have HR233 := Aside0.mk hr46
        have HC233 := Aside0.mk (show y230.length ≤ c1 from by omega)
        clear hr46 hC46 hroom46 hi046 hsz46
        have KY46 := Aside0.mk hy46
        clear hy46
        replace q46 := eq_true q46
        have hnb47 := NB224_221.out
        have hnc47 := NB221_224.out
        obtain ⟨hcz48_0, hcz48_1, hcz48_2, hfz48_0, hfz48_1, hfz48_2⟩ := cz3_ BK224.out
        go_wp2_with (first | ((with_reducible refine gate_callee (f := 12) rfl ?_); refine gl_ (some 67) Try.func12 #[.slice (some ad223) y230.length c1, .func (.func 13) #[] #[.pointer (some ⟨gb224, 0, none⟩)]] ?_; (with_reducible refine (impl_Turn_12.callsB gb224 _ _ y230 ((rd_T31 l1 x17_2).f0) ((rd_T31 l1 x17_2).f1) ((rd_T31 l1 x17_2).f2) false _ ?side1 ?side2 (np_ BK224.out) A40.out).mono ?_); (case side1 => exact nc_ (Kd.C_below HR233.out HB.out)); (case side2 => exact HC233.out); rintro e w49 ⟨rfl, hb⟩; refine ⟨_, rfl, ?_⟩; replace BK221 := kb_ BK221 hb; replace BK224 := kb_ BK224 hb; replace HB := kB_ HB hb; (try clear hb); (try clear hb2); (try clear hk); (try clear hi)))
        go_roundg kj14
        case measure => have := HJ2.out; have := HK2.out; have := HJ14.out; omega
        case rel => exact ⟨(wrap64 (x17_2 + 1)), ns_, H', ⟨by have := HJ2.out; have := HK2.out; have := HJ14.out; omega⟩, ⟨nb_ BK221.out⟩, ⟨ne_ HB.out⟩⟩
end Go.Proofs.Ytahcomglicodlaa.Print
