-- Made by this session's own program (wip/patch_print.py, over the kit's print). Lean checks it.
import Derived.Test.YtfijdkjibjdbiaaPrint0
import Derived.Test.YtfijdkjibjdbiaaPrintB
import Derived.Test.YtfijdkjibjdbiaaPrintF10
import Derived.Test.YtfijdkjibjdbiaaPrintF32
namespace Go.Proofs.Ytfijdkjibjdbiaa.Print
open Go.RowKit Go.Proofs.YtfijdkjibjdbiaaW.PrintWords Go.Proofs.YtfijdkjibjdbiaaW.PrintLast Go.Proofs.YtfijdkjibjdbiaaW.PrintMore Go.Proofs.YtfijdkjibjdbiaaX
attribute [local go_sem] max2_int min2_int max_two min_two max_three min_three max_four min_four   -- for this text's walks alone
set_option linter.unusedVariables false
set_option linter.unusedSimpArgs false

abbrev z14_0 := bm_ 41 0
abbrev z14_1 := bm_ 41 1
abbrev z14_2 := bm_ 41 5
abbrev z14_3 := bm_ 41 7
abbrev z14_4 := bm_ 41 15
abbrev z14_5 := bm_ 41 31
abbrev z14_6 := bm_ 41 63
abbrev z14_7 := bm_ 41 127
abbrev z14_8 := bm_ 41 255
abbrev z14_9 := bm_ 41 511
abbrev z14_10 := bm_ 41 1023
abbrev z14_11 := bm_ 41 3071
abbrev z14_12 := bm_ 41 4095
abbrev z14_13 := bm_ 41 8191
abbrev z14_14 := bm_ 41 16383
abbrev z14_15 := bm_ 41 32767
abbrev z14_16 := bm_ 41 65535
abbrev z14_17 := bm_ 41 131071
abbrev z14_18 := bm_ 41 262143
abbrev z14_19 := bm_ 41 524287
abbrev z14_20 := bm_ 41 1048575
abbrev z14_21 := bm_ 41 3145727
abbrev z14_22 := bm_ 41 70254591
abbrev z14_23 := bm_ 41 338690047
abbrev z14_24 := bm_ 41 339738623
abbrev z14_25 := bm_ 41 343932927
abbrev z14_26 := bm_ 41 352321535
abbrev z14_27 := bm_ 41 369098751
abbrev z14_28 := bm_ 41 402653183
abbrev z14_29 := bm_ 41 536870911
abbrev z14_30 := bm_ 41 1073741823
abbrev z14_31 := bm_ 41 2147483647
abbrev z14_32 := bm_ 41 4294967295
abbrev z14_33 := bm_ 41 8589934591
abbrev z14_34 := bm_ 41 17179869183
abbrev z14_35 := bm_ 41 34359738367
abbrev z14_36 := bm_ 41 68719476735
abbrev z14_37 := bm_ 41 137438953471
abbrev z14_38 := bm_ 41 274877906943
abbrev z14_39 := bm_ 41 549755813887
abbrev z14_40 := bm_ 41 1099511627775
abbrev z14_41 := bm_ 41 2199023255551
abbrev z14_42 := bm_ 41 2097151
abbrev z14_43 := bm_ 41 4194303
abbrev z14_44 := bm_ 41 8388607
abbrev z14_45 := bm_ 41 16777215
abbrev z14_46 := bm_ 41 33554431
abbrev z14_47 := bm_ 41 67108863
abbrev z14_48 := bm_ 41 134217727
abbrev z14_49 := bm_ 41 268435455
/-! ### impl_TurnsOk: function 14 -/
mutual
def impl_TurnsOk.j0 : Nat → List (S60) → Bool → Int → List (S36) → Option (Bool)
  | 0, _, _, _, _ => none
  | k + 1, x1, x14, x198000, x198001 => if x14 = true then (some false) else (impl_TurnsOk.l0 k x1 x1 (x1.length : Int) 0 x198000 x198001)
def impl_TurnsOk.l0 : Nat → List (S60) → List (S60) → Int → Int → Int → List (S36) → Option (Bool)
  | 0, _, _, _, _, _, _ => none
  | k + 1, x1, x15, x16, x17, x198000, x198001 => if x17 < x16 then (if 0 ≤ x17 then (if x17 < (x15.length : Int) then ((impl_within.f ((rd_T60 x15 x17).f0) 0 (wrap64 ((x198001.length : Int) - 1))).bind fun t201 => (if t201 = true then ((impl_within.f ((rd_T60 x15 x17).f1) 0 (wrap64 ((x198001.length : Int) - 1))).bind fun t202 => (if t202 = true then (if 0 ≤ ((rd_T60 x15 x17).f0) then (if ((rd_T60 x15 x17).f0) < (x198001.length : Int) then (if 0 ≤ ((rd_T60 x15 x17).f1) then (if ((rd_T60 x15 x17).f1) < (x198001.length : Int) then (if ((rd_T36 x198001 ((rd_T60 x15 x17).f0)).f1) = ((rd_T36 x198001 ((rd_T60 x15 x17).f1)).f0) then ((impl_within.f ((rd_T60 x15 x17).f2) (-1) 99).bind fun t205 => (impl_TurnsOk.j2 k x1 x17 x15 x16 x17 (!t205) x198000 x198001 ((rd_T60 x15 x17).f0) ((rd_T60 x15 x17).f1) ((rd_T60 x15 x17).f2))) else (impl_TurnsOk.j2 k x1 x17 x15 x16 x17 true x198000 x198001 ((rd_T60 x15 x17).f0) ((rd_T60 x15 x17).f1) ((rd_T60 x15 x17).f2))) else (none)) else (none)) else (none)) else (none)) else (impl_TurnsOk.j2 k x1 x17 x15 x16 x17 true x198000 x198001 ((rd_T60 x15 x17).f0) ((rd_T60 x15 x17).f1) ((rd_T60 x15 x17).f2)))) else (impl_TurnsOk.j2 k x1 x17 x15 x16 x17 true x198000 x198001 ((rd_T60 x15 x17).f0) ((rd_T60 x15 x17).f1) ((rd_T60 x15 x17).f2)))) else (none)) else (none)) else (some true)
def impl_TurnsOk.j2 : Nat → List (S60) → Int → List (S60) → Int → Int → Bool → Int → List (S36) → Int → Int → Int → Option (Bool)
  | 0, _, _, _, _, _, _, _, _, _, _, _ => none
  | k + 1, x1, x5, x15, x16, x17, x62, x198000, x198001, x201000, x201001, x201002 => if x62 = true then (some false) else (if 0 ≤ x5 then (if x5 ≤ (x1.length : Int) then ((impl_Turn_32.f (x1.take (x5 : Int).toNat) x201000 x201001 x201002).bind fun t210 => (if t210 = true then (some false) else (impl_TurnsOk.l0 k x1 x15 x16 (wrap64 (x17 + 1)) x198000 x198001))) else (none)) else (none))
end
def impl_TurnsOk.f (k : Nat) (a0_0 : Int) (l0_1 : List (S36)) (l1 : List (S60)) : Option (Bool) := (impl_NetOk.f a0_0 l0_1).bind fun t198 => (if t198 = true then (impl_TurnsOk.j0 k l1 (decide ((l1.length : Int) > 12)) a0_0 l0_1) else (impl_TurnsOk.j0 k l1 true a0_0 l0_1))
theorem impl_TurnsOk.mono_l : ∀ k, (∀ y0 y1 y2 y3, LeO (impl_TurnsOk.j0 k y0 y1 y2 y3) (impl_TurnsOk.j0 (k + 1) y0 y1 y2 y3)) ∧ (∀ y0 y1 y2 y3 y4 y5, LeO (impl_TurnsOk.l0 k y0 y1 y2 y3 y4 y5) (impl_TurnsOk.l0 (k + 1) y0 y1 y2 y3 y4 y5)) ∧ (∀ y0 y1 y2 y3 y4 y5 y6 y7 y8 y9 y10, LeO (impl_TurnsOk.j2 k y0 y1 y2 y3 y4 y5 y6 y7 y8 y9 y10) (impl_TurnsOk.j2 (k + 1) y0 y1 y2 y3 y4 y5 y6 y7 y8 y9 y10))
  | 0 => ⟨fun _ _ _ _ r h => by simp [impl_TurnsOk.j0] at h, fun _ _ _ _ _ _ r h => by simp [impl_TurnsOk.l0] at h, fun _ _ _ _ _ _ _ _ _ _ _ r h => by simp [impl_TurnsOk.j2] at h⟩
  | k + 1 => by
    obtain ⟨ih0, ih1, ih2⟩ := impl_TurnsOk.mono_l k
    refine ⟨?_, ?_, ?_⟩
    · intro y0 y1 y2 y3
      unfold impl_TurnsOk.j0
      repeat' first | (with_reducible first | exact ih0 _ _ _ _ | exact ih1 _ _ _ _ _ _ | exact ih2 _ _ _ _ _ _ _ _ _ _ _ | exact LeO.refl _ | exact LeO.none _ | refine LeO.ite ?_ ?_ | refine LeO.bind ?_ (fun _ => ?_)) | exact ih0 _ _ _ _ | exact ih1 _ _ _ _ _ _ | exact ih2 _ _ _ _ _ _ _ _ _ _ _ | exact LeO.none _ | refine LeO.ite ?_ ?_ | refine LeO.bind ?_ (fun _ => ?_)
    · intro y0 y1 y2 y3 y4 y5
      unfold impl_TurnsOk.l0
      repeat' first | (with_reducible first | exact ih0 _ _ _ _ | exact ih1 _ _ _ _ _ _ | exact ih2 _ _ _ _ _ _ _ _ _ _ _ | exact LeO.refl _ | exact LeO.none _ | refine LeO.ite ?_ ?_ | refine LeO.bind ?_ (fun _ => ?_)) | exact ih0 _ _ _ _ | exact ih1 _ _ _ _ _ _ | exact ih2 _ _ _ _ _ _ _ _ _ _ _ | exact LeO.none _ | refine LeO.ite ?_ ?_ | refine LeO.bind ?_ (fun _ => ?_)
    · intro y0 y1 y2 y3 y4 y5 y6 y7 y8 y9 y10
      unfold impl_TurnsOk.j2
      repeat' first | (with_reducible first | exact ih0 _ _ _ _ | exact ih1 _ _ _ _ _ _ | exact ih2 _ _ _ _ _ _ _ _ _ _ _ | exact LeO.refl _ | exact LeO.none _ | refine LeO.ite ?_ ?_ | refine LeO.bind ?_ (fun _ => ?_)) | exact ih0 _ _ _ _ | exact ih1 _ _ _ _ _ _ | exact ih2 _ _ _ _ _ _ _ _ _ _ _ | exact LeO.none _ | refine LeO.ite ?_ ?_ | refine LeO.bind ?_ (fun _ => ?_)
theorem impl_TurnsOk.mono : ∀ a0 a1 a2 k, LeO (impl_TurnsOk.f k a0 a1 a2) (impl_TurnsOk.f (k + 1) a0 a1 a2) := by
  intro a0 a1 a2 k
  obtain ⟨ih0, ih1, ih2⟩ := impl_TurnsOk.mono_l k
  unfold impl_TurnsOk.f
  repeat' first | (with_reducible first | exact ih0 _ _ _ _ | exact ih1 _ _ _ _ _ _ | exact ih2 _ _ _ _ _ _ _ _ _ _ _ | exact LeO.refl _ | exact LeO.none _ | refine LeO.ite ?_ ?_ | refine LeO.bind ?_ (fun _ => ?_)) | exact ih0 _ _ _ _ | exact ih1 _ _ _ _ _ _ | exact ih2 _ _ _ _ _ _ _ _ _ _ _ | exact LeO.none _ | refine LeO.ite ?_ ?_ | refine LeO.bind ?_ (fun _ => ?_)
def impl_TurnsOk.T6 : Bool × List (List Nat × List Nat) := (true, [([], []), ([0], [0]), ([], []), ([2], [2]), ([3], [3]), ([4], [4]), ([1, 5], [1, 5]), ([6], [6]), ([7, 6], [7]), ([8], [8]), ([9, 8], [8, 9]), ([8], [8]), ([11, 8], [8, 11]), ([12, 8], [8, 12]), ([13, 8], [8, 13]), ([10, 14, 8, 8], [8, 10, 14]), ([15, 8], [8, 15]), ([8, 16], [8, 16]), ([17, 15], [17]), ([18], [18]), ([19, 18], [18, 19]), ([18], [18]), ([21, 18], [18, 21]), ([20, 22, 18], [18, 20, 22]), ([23, 18], [18, 23]), ([24, 18], [18, 24]), ([18], [18]), ([26, 18], [18, 26]), ([18], [18]), ([28, 18], [18, 28]), ([27, 29, 18], [18, 27, 29]), ([30, 18], [18, 30]), ([31, 18], [18, 31]), ([25, 32, 18], [18, 25, 32]), ([18, 33], [18, 33]), ([34, 18], [34]), ([35], [35]), ([36, 35], [35, 36]), ([37, 35, 35], [35, 37]), ([38, 35], [35, 38]), ([35, 39], [35, 39])])
def impl_TurnsOk.B6 : List Nat := [0, 1, 0, 4, 12, 28, 63, 127, 255, 511, 1023, 511, 2559, 6655, 14847, 32767, 65535, 131071, 262143, 524287, 1048575, 524287, 2621439, 8388607, 16777215, 33554431, 524287, 67633151, 524287, 268959743, 1007157247, 2080899071, 4228382719, 8589934591, 17179869183, 34359738367, 68719476735, 137438953471, 274877906943, 549755813887, 1099511627775]
theorem impl_TurnsOk.tab6 : rtab .any (opsOf Try.f14 6) = impl_TurnsOk.T6 := by kernel_rfl
theorem impl_TurnsOk.bits6 : waitsOk impl_TurnsOk.T6.2 impl_TurnsOk.B6 = true := by kernel_rfl
set_option maxHeartbeats 200000000 in
set_option maxRecDepth 100000 in
theorem impl_TurnsOk.calls (k : Nat) (a0_0 : Int) (A0_1 : Option Addr) (c0_1 : Nat) (l0_1 : List (S36)) (A1 : Option Addr) (c1 : Nat) (l1 : List (S60)) (r : Bool) (w : World) (hr0_1 : Kd.C k36 w A0_1 l0_1.length l0_1) (hc0_1 : l0_1.length ≤ c0_1) (hr1 : Kd.C k60 w A1 l1.length l1) (hc1 : l1.length ≤ c1) (h : impl_TurnsOk.f k a0_0 l0_1 l1 = some r) :
    Calls Try.prog 14 #[.agg #[.int .i64 a0_0, .slice A0_1 l0_1.length c0_1], .slice A1 l1.length c1] w fun e w' => e = .returned (.bool r) ∧ Below w.heap.size w w' := by
  have hu25 := Try.underlying25
  have hu60 := Try.underlying60
  have HR0_1 := Aside0.mk hr0_1
  have HC0_1 := Aside0.mk hc0_1
  clear hr0_1 hc0_1
  have HR1 := Aside0.mk hr1
  have HC1 := Aside0.mk hc1
  clear hr1 hc1
  have HB := Aside0.mk (Below.refl w.heap.size w)
  have H : ((impl_NetOk.f a0_0 l0_1).bind fun t198 => (if t198 = true then (impl_TurnsOk.j0 k l1 (decide ((l1.length : Int) > 12)) a0_0 l0_1) else (impl_TurnsOk.j0 k l1 true a0_0 l0_1))) = some r := h
  clear h
  have HC3 := Aside0.mk H
  clear H
  go_enter Try.func14, Try.ntmps14
  go_upto_region 1 with (first | ((with_reducible refine gate_dst (N := 2) rfl ?_); (try (refine gate_guard (by rfl) ?_; dsimp only)); refine bx_ 2 #[.int .i64 a0_0, .slice A0_1 l0_1.length c0_1] 25 ?_; intro gb197 hg w4 hbox hb; have BK197 := Aside0.mk (hbox); have GW197 := Aside0.mk (zs_ hg (ne_ HB.out)); have GE197 := Aside0.mk (zs_ hg (ne_ HB.out)); replace HB := kB_ HB hb; clear hb hbox hg))
  (try simp only [Act.put, List.setIfInBounds_toArray, List.set_cons_zero, List.set_cons_succ])
  go_cut [14] (fun v14 wc => ∃ (kq : Nat) (x14_2 : Bool), v14 = .bool x14_2 ∧ Aside0 (impl_TurnsOk.j0 kq l1 x14_2 a0_0 l0_1 = some r) ∧ Aside0 (kq ≤ k) ∧ Aside0 (wc.heap[gb197]? = some (.cells #[.int .i64 a0_0, (.slice A0_1 l0_1.length c0_1)] 25 (0, 0))) ∧ Aside0 (Below w.heap.size w wc))
  case first =>
   have H := HC3.out
   clear HC3
   replace H := Option.bind_eq_some_iff.mp H
   obtain ⟨t198, A50, H⟩ := H
   try dsimp only at H
   have A5 := Aside0.mk A50
   clear A50
   by_cases c6 : t198 = true
   ·subst c6
    have H1 : (impl_TurnsOk.j0 k l1 (decide ((l1.length : Int) > 12)) a0_0 l0_1) = some r := by rw [if_pos rfl] at H; exact H
    clear H
    have H := H1
    clear H1
    have H' := Aside0.mk H
    clear H
    obtain ⟨hcz7_0, hcz7_1, hfz7_0, hfz7_1⟩ := cz2_ BK197.out
    go_wp2_with (first | ((with_reducible refine gate_callee (f := 10) rfl ?_); refine gl_ (some 8) Try.func10 #[.agg #[.int .i64 a0_0, .slice A0_1 l0_1.length c0_1]] ?_; (with_reducible refine (impl_NetOk.calls a0_0 _ _ l0_1 true _ ?side1 ?side2 A5.out).mono ?_); (case side1 => exact nc_ (Kd.C_below HR0_1.out HB.out)); (case side2 => exact HC0_1.out); rintro e w8 ⟨rfl, hb⟩; refine ⟨_, rfl, ?_⟩; replace BK197 := kb_ BK197 hb; replace HB := kB_ HB hb; (try clear hb); (try clear hb2); (try clear hk); (try clear hi)))
    go_meet
    case rel => exact ⟨_, (decide ((l1.length : Int) > 12)), ns_, H', ⟨by first | omega | exact Nat.le_refl _⟩, ⟨nb_ BK197.out⟩, ⟨ne_ HB.out⟩⟩
   replace c6 := Bool.eq_false_iff.mpr c6
   subst c6
   have H1 : (impl_TurnsOk.j0 k l1 true a0_0 l0_1) = some r := by rw [if_neg (show ¬ (false = true) by decide)] at H; exact H
   clear H
   have H := H1
   clear H1
   have H' := Aside0.mk H
   clear H
   obtain ⟨hcz9_0, hcz9_1, hfz9_0, hfz9_1⟩ := cz2_ BK197.out
   go_wp2_with (first | ((with_reducible refine gate_callee (f := 10) rfl ?_); refine gl_ (some 8) Try.func10 #[.agg #[.int .i64 a0_0, .slice A0_1 l0_1.length c0_1]] ?_; (with_reducible refine (impl_NetOk.calls a0_0 _ _ l0_1 false _ ?side1 ?side2 A5.out).mono ?_); (case side1 => exact nc_ (Kd.C_below HR0_1.out HB.out)); (case side2 => exact HC0_1.out); rintro e w10 ⟨rfl, hb⟩; refine ⟨_, rfl, ?_⟩; replace BK197 := kb_ BK197 hb; replace HB := kB_ HB hb; (try clear hb); (try clear hb2); (try clear hk); (try clear hi)))
   go_meet
   case rel => exact ⟨_, (true), ns_, H', ⟨by first | omega | exact Nat.le_refl _⟩, ⟨nb_ BK197.out⟩, ⟨ne_ HB.out⟩⟩
  case rest =>
   clear HC3
   try clear c1
   obtain ⟨kq, x14_2, rfl, HA, HJ2, BK197, HB⟩ := hcut
   cases kq with
   | zero => exact absurd HA.out (by simp [impl_TurnsOk.j0])
   | succ kj2 =>
    have H := HA.out
    clear HA
    simp only [impl_TurnsOk.j0] at H
    by_cases c11 : x14_2 = true
    ·subst c11
     have H1 : (some false) = some r := by rw [if_pos rfl] at H; exact H
     clear H
     have H := H1
     clear H1
     obtain rfl := Option.some.inj H
     go_wp2
     go_ret
     exact ⟨nw_, ne_ HB.out⟩
    replace c11 := Bool.eq_false_iff.mpr c11
    subst c11
    have H1 : (impl_TurnsOk.l0 kj2 l1 l1 (l1.length : Int) 0 a0_0 l0_1) = some r := by rw [if_neg (show ¬ (false = true) by decide)] at H; exact H
    clear H
    have H := H1
    clear H1
    have H' := Aside0.mk H
    clear H
    go_wp2
    go_loopg [17] kj2 (fun kq v17 w' => ∃ (x17_2 : Int), v17 = .int .i64 x17_2 ∧ Aside0 (impl_TurnsOk.l0 kq l1 l1 (l1.length : Int) x17_2 a0_0 l0_1 = some r) ∧ Aside0 (kq ≤ kj2) ∧ Aside0 (w'.heap[gb197]? = some (.cells #[.int .i64 a0_0, (.slice A0_1 l0_1.length c0_1)] 25 (0, 0))) ∧ Aside0 (Below w.heap.size w w'))
    case atStart => exact ⟨(0), ns_, H', ⟨Nat.le_refl _⟩, ⟨nb_ BK197.out⟩, ⟨ne_ HB.out⟩⟩
    case round =>
     clear H'
     try clear c1
     try clear c11
     obtain ⟨x17_2, rfl, HA, HK2, BK197, HB⟩ := hrel
     cases gk with
     | zero => exact absurd HA.out (by simp [impl_TurnsOk.l0])
     | succ k2 =>
      have H := HA.out
      clear HA
      simp only [impl_TurnsOk.l0] at H
      by_cases c12 : x17_2 < (l1.length : Int)
      rotate_left
      ·rw [if_neg c12] at H
       have c12b0 : decide (x17_2 < (l1.length : Int)) = false := decide_eq_false c12
       clear c12
       obtain rfl := Option.some.inj H
       go_wp2
       go_ret
       exact ⟨nw_, ne_ HB.out⟩

      rw [if_pos c12] at H
      have c12b0 : decide (x17_2 < (l1.length : Int)) = true := decide_eq_true c12
      clear c12
      by_cases c13 : 0 ≤ x17_2
      rotate_left
      ·rw [if_neg c13] at H
       exact absurd H (by simp)
      rw [if_pos c13] at H
      have c13b0 : decide (0 ≤ x17_2) = true := decide_eq_true c13
      clear c13
      by_cases c14 : x17_2 < (l1.length : Int)
      rotate_left
      ·rw [if_neg c14] at H
       exact absurd H (by simp)
      rw [if_pos c14] at H
      have c14b0 : decide (x17_2 < (l1.length : Int)) = true := decide_eq_true c14
      clear c14
      have HC15 := Aside0.mk H
      clear H
      have p199 : 0 ≤ (x17_2 : Int) := of_decide_eq_true nx_
      have q199 : x17_2 < (l1.length : Int) := of_decide_eq_true nx_
      obtain ⟨ad199, e199, hx199_0, hx199_1, hx199_2⟩ := at_T60 HR1.out x17_2 p199 q199
      cases e199
      replace hx199_0 := hb_ HB.out hx199_0
      replace hx199_1 := hb_ HB.out hx199_1
      replace hx199_2 := hb_ HB.out hx199_2
      replace p199 := eq_true p199
      replace q199 := eq_true q199
      go_upto_region 6 with (first | ((with_reducible refine gate_dst (N := 6) rfl ?_); (try (refine gate_guard (by rfl) ?_; dsimp only)); refine bx_ 6 #[.int .i64 0, .int .i64 0, .int .i64 0] 60 ?_; intro gb200 hg w16 hbox hb; have BK200 := Aside0.mk (hbox); have GW200 := Aside0.mk (zs_ hg (ne_ HB.out)); have GE200 := Aside0.mk (zs_ hg (ne_ HB.out)); have NB197_200 := Aside0.mk (nl_ BK197.out hg); have NB200_197 := Aside0.mk (nm_ BK197.out hg); replace BK197 := kb_ BK197 hb; replace HB := kB_ HB hb; clear hb hbox hg; have hnb17 := NB200_197.out; have hnc17 := NB197_200.out; obtain ⟨hcz18_0, hcz18_1, hcz18_2, hfz18_0, hfz18_1, hfz18_2⟩ := cz3_ BK200.out))
      (try simp only [Act.put, List.setIfInBounds_toArray, List.set_cons_zero, List.set_cons_succ])
      go_cut [62] (fun v62 wc => ∃ (kq : Nat) (x62_14 : Bool), v62 = .bool x62_14 ∧ Aside0 (impl_TurnsOk.j2 kq l1 x17_2 l1 (l1.length : Int) x17_2 x62_14 a0_0 l0_1 ((rd_T60 l1 x17_2).f0) ((rd_T60 l1 x17_2).f1) ((rd_T60 l1 x17_2).f2) = some r) ∧ Aside0 (kq ≤ k2) ∧ Aside0 (wc.heap[gb197]? = some (.cells #[.int .i64 a0_0, (.slice A0_1 l0_1.length c0_1)] 25 (0, 0))) ∧ Aside0 (wc.heap[gb200]? = some (.cells #[.int .i64 ((rd_T60 l1 x17_2).f0), .int .i64 ((rd_T60 l1 x17_2).f1), .int .i64 ((rd_T60 l1 x17_2).f2)] 60 (0, 0))) ∧ Aside0 (Below w.heap.size w wc))
      case first =>
       have H := HC15.out
       clear HC15
       replace H := Option.bind_eq_some_iff.mp H
       obtain ⟨t201, A190, H⟩ := H
       try dsimp only at H
       have A19 := Aside0.mk A190
       clear A190
       by_cases c20 : t201 = true
       rotate_left
       ·replace c20 := Bool.eq_false_iff.mpr c20
        subst c20
        have H1 : (impl_TurnsOk.j2 k2 l1 x17_2 l1 (l1.length : Int) x17_2 true a0_0 l0_1 ((rd_T60 l1 x17_2).f0) ((rd_T60 l1 x17_2).f1) ((rd_T60 l1 x17_2).f2)) = some r := by rw [if_neg (show ¬ (false = true) by decide)] at H; exact H
        clear H
        have H := H1
        clear H1
        have H' := Aside0.mk H
        clear H
        try go_wp2
        have n0_ : Aside0 ((((w16.setCell ⟨gb200, 0, none⟩ (.int .i64 ((rd_T60 l1 x17_2).f0))).setCell ⟨gb200, 1, none⟩ (.int .i64 ((rd_T60 l1 x17_2).f1))).setCell ⟨gb200, 2, none⟩ (.int .i64 ((rd_T60 l1 x17_2).f2))).heap[gb197]? = some (.cells #[.int .i64 a0_0, .slice A0_1 l0_1.length c0_1] 25 (0, 0))) := ⟨np_ BK197.out⟩
        have n1_ : Aside0 ((((w16.setCell ⟨gb200, 0, none⟩ (.int .i64 ((rd_T60 l1 x17_2).f0))).setCell ⟨gb200, 1, none⟩ (.int .i64 ((rd_T60 l1 x17_2).f1))).setCell ⟨gb200, 2, none⟩ (.int .i64 ((rd_T60 l1 x17_2).f2))).heap[gb200]? = some (.cells #[.int .i64 ((rd_T60 l1 x17_2).f0), .int .i64 ((rd_T60 l1 x17_2).f1), .int .i64 ((rd_T60 l1 x17_2).f2)] 60 (0, 0))) := ⟨np_ BK200.out⟩
        have n2_ : Aside0 (Below w.heap.size w (((w16.setCell ⟨gb200, 0, none⟩ (.int .i64 ((rd_T60 l1 x17_2).f0))).setCell ⟨gb200, 1, none⟩ (.int .i64 ((rd_T60 l1 x17_2).f1))).setCell ⟨gb200, 2, none⟩ (.int .i64 ((rd_T60 l1 x17_2).f2)))) := ⟨ne_ HB.out⟩
        (try clear BK197)
        (try clear BK200)
        (try clear HB)
        generalize (((w16.setCell ⟨gb200, 0, none⟩ (.int .i64 ((rd_T60 l1 x17_2).f0))).setCell ⟨gb200, 1, none⟩ (.int .i64 ((rd_T60 l1 x17_2).f1))).setCell ⟨gb200, 2, none⟩ (.int .i64 ((rd_T60 l1 x17_2).f2))) = w35 at n0_ n1_ n2_ ⊢
        have BK197 := n0_
        have BK200 := n1_
        have HB := n2_
        clear n0_ n1_ n2_
        replace BK197 := Aside0.mk (blk_drew BK197.out)
        replace BK200 := Aside0.mk (blk_drew BK200.out)
        replace HB := Aside0.mk (below_drew1 HB.out)
        refine start_ (n := 41) (S := fun w' => w'.cell? ⟨gb200, 0, none⟩ = some (.int .i64 ((rd_T60 l1 x17_2).f0)) ∧ w'.cell? ⟨gb200, 1, none⟩ = some (.int .i64 ((rd_T60 l1 x17_2).f1)) ∧ w'.cell? ⟨gb200, 2, none⟩ = some (.int .i64 ((rd_T60 l1 x17_2).f2)) ∧ w'.cell? ⟨gb197, 0, none⟩ = some (.int .i64 a0_0) ∧ w'.cell? ⟨gb197, 1, none⟩ = some (.slice A0_1 l0_1.length c0_1)) (ds := []) z14_0 (by kernel_rfl) rfl rfl ⟨ct_ BK200.out 0, ct_ BK200.out 1, ct_ BK200.out 2, ct_ BK197.out 0, ct_ BK197.out 1⟩ (fun hHeld => ?_); refine with_tabW impl_TurnsOk.tab6 impl_TurnsOk.bits6 (fun HT_ HW_ => ?_)
        generalize w35.drew = w36 at BK197 BK200 HB hHeld ⊢
        refine pu_ 0 22 z14_1 HT_.out ?_
        refine pu_ 2 24 z14_2 HT_.out ?_
        refine tk_ 1 23 z14_3 HT_.out HW_.out hHeld ?_
        refine tk_ 3 25 z14_4 HT_.out HW_.out hHeld ?_
        refine pu_ 4 26 z14_5 HT_.out ?_
        refine pu_ 5 27 z14_6 HT_.out ?_
        refine one_ (i := 6) (N := some 28) z14_7 rfl rfl (one_of HT_.out (by kernel_rfl)) (by decide) (fun K hK => ?_)
        refine go_ Try.func15 #[.int .i64 ((rd_T60 l1 x17_2).f0), .int .i64 0, .int .i64 (wrap64 ((l0_1.length : Int) - 1))] ?_
        with_reducible refine (impl_within.calls ((rd_T60 l1 x17_2).f0) 0 (wrap64 ((l0_1.length : Int) - 1)) false _ A19.out).mono ?_
        rintro e w' ⟨rfl, ⟨nd, rfl⟩⟩
        refine ⟨_, rfl, ?_⟩
        refine hK.out _ _ ⟨ct_ BK200.out 0, ct_ BK200.out 1, ct_ BK200.out 2, ct_ BK197.out 0, ct_ BK197.out 1⟩ (fun hHeld => ?_)
        clear hK K
        refine nm1_ (some 28) ?_
        refine pu_ 7 29 z14_8 HT_.out ?_
        refine pu_ 8 30 z14_9 HT_.out ?_
        refine un_ 9 31 z14_10 HT_.out ?_
        refine un_ 10 32 (bm_ 41 2047) HT_.out ?_
        refine un_ 11 33 z14_12 HT_.out ?_
        refine un_ 12 34 z14_13 HT_.out ?_
        refine un_ 13 35 z14_14 HT_.out ?_
        refine un_ 14 36 z14_15 HT_.out ?_
        refine un_ 15 37 z14_16 HT_.out ?_
        refine un_ 16 38 z14_17 HT_.out ?_
        refine pu_ 17 39 z14_18 HT_.out ?_
        refine pu_ 18 40 z14_19 HT_.out ?_
        refine un_ 19 41 z14_20 HT_.out ?_
        refine un_ 20 42 z14_42 HT_.out ?_
        refine un_ 21 43 z14_43 HT_.out ?_
        refine un_ 22 44 z14_44 HT_.out ?_
        refine un_ 23 45 z14_45 HT_.out ?_
        refine un_ 24 46 z14_46 HT_.out ?_
        refine un_ 25 47 z14_47 HT_.out ?_
        refine un_ 26 48 z14_48 HT_.out ?_
        refine un_ 27 49 z14_49 HT_.out ?_
        refine un_ 28 50 z14_29 HT_.out ?_
        refine un_ 29 51 z14_30 HT_.out ?_
        refine un_ 30 52 z14_31 HT_.out ?_
        refine un_ 31 53 z14_32 HT_.out ?_
        refine un_ 32 54 z14_33 HT_.out ?_
        refine un_ 33 55 z14_34 HT_.out ?_
        refine pu_ 34 56 z14_35 HT_.out ?_
        refine pu_ 35 57 z14_36 HT_.out ?_
        refine un_ 36 58 z14_37 HT_.out ?_
        refine un_ 37 59 z14_38 HT_.out ?_
        refine un_ 38 60 z14_39 HT_.out ?_
        refine un_ 39 61 z14_40 HT_.out ?_
        refine pu_ 40 62 z14_41 HT_.out ?_
        refine done_ (done_of HT_.out (by kernel_rfl)) ?_
        try go_wp2
        go_meet
        case rel => exact ⟨_, (true), ns_, H', ⟨by have := HJ2.out; have := HK2.out; first | omega | exact Nat.le_refl _⟩, ⟨nb_ BK197.out⟩, ⟨nb_ BK200.out⟩, ⟨ne_ HB.out⟩⟩
       subst c20
       rw [if_pos rfl] at H
       replace H := Option.bind_eq_some_iff.mp H
       obtain ⟨t202, A210, H⟩ := H
       try dsimp only at H
       have A21 := Aside0.mk A210
       clear A210
       by_cases c22 : t202 = true
       rotate_left
       ·replace c22 := Bool.eq_false_iff.mpr c22
        subst c22
        have H1 : (impl_TurnsOk.j2 k2 l1 x17_2 l1 (l1.length : Int) x17_2 true a0_0 l0_1 ((rd_T60 l1 x17_2).f0) ((rd_T60 l1 x17_2).f1) ((rd_T60 l1 x17_2).f2)) = some r := by rw [if_neg (show ¬ (false = true) by decide)] at H; exact H
        clear H
        have H := H1
        clear H1
        have H' := Aside0.mk H
        clear H
        try go_wp2
        have n0_ : Aside0 ((((w16.setCell ⟨gb200, 0, none⟩ (.int .i64 ((rd_T60 l1 x17_2).f0))).setCell ⟨gb200, 1, none⟩ (.int .i64 ((rd_T60 l1 x17_2).f1))).setCell ⟨gb200, 2, none⟩ (.int .i64 ((rd_T60 l1 x17_2).f2))).heap[gb197]? = some (.cells #[.int .i64 a0_0, .slice A0_1 l0_1.length c0_1] 25 (0, 0))) := ⟨np_ BK197.out⟩
        have n1_ : Aside0 ((((w16.setCell ⟨gb200, 0, none⟩ (.int .i64 ((rd_T60 l1 x17_2).f0))).setCell ⟨gb200, 1, none⟩ (.int .i64 ((rd_T60 l1 x17_2).f1))).setCell ⟨gb200, 2, none⟩ (.int .i64 ((rd_T60 l1 x17_2).f2))).heap[gb200]? = some (.cells #[.int .i64 ((rd_T60 l1 x17_2).f0), .int .i64 ((rd_T60 l1 x17_2).f1), .int .i64 ((rd_T60 l1 x17_2).f2)] 60 (0, 0))) := ⟨np_ BK200.out⟩
        have n2_ : Aside0 (Below w.heap.size w (((w16.setCell ⟨gb200, 0, none⟩ (.int .i64 ((rd_T60 l1 x17_2).f0))).setCell ⟨gb200, 1, none⟩ (.int .i64 ((rd_T60 l1 x17_2).f1))).setCell ⟨gb200, 2, none⟩ (.int .i64 ((rd_T60 l1 x17_2).f2)))) := ⟨ne_ HB.out⟩
        (try clear BK197)
        (try clear BK200)
        (try clear HB)
        generalize (((w16.setCell ⟨gb200, 0, none⟩ (.int .i64 ((rd_T60 l1 x17_2).f0))).setCell ⟨gb200, 1, none⟩ (.int .i64 ((rd_T60 l1 x17_2).f1))).setCell ⟨gb200, 2, none⟩ (.int .i64 ((rd_T60 l1 x17_2).f2))) = w33 at n0_ n1_ n2_ ⊢
        have BK197 := n0_
        have BK200 := n1_
        have HB := n2_
        clear n0_ n1_ n2_
        replace BK197 := Aside0.mk (blk_drew BK197.out)
        replace BK200 := Aside0.mk (blk_drew BK200.out)
        replace HB := Aside0.mk (below_drew1 HB.out)
        refine start_ (n := 41) (S := fun w' => w'.cell? ⟨gb200, 0, none⟩ = some (.int .i64 ((rd_T60 l1 x17_2).f0)) ∧ w'.cell? ⟨gb200, 1, none⟩ = some (.int .i64 ((rd_T60 l1 x17_2).f1)) ∧ w'.cell? ⟨gb200, 2, none⟩ = some (.int .i64 ((rd_T60 l1 x17_2).f2)) ∧ w'.cell? ⟨gb197, 0, none⟩ = some (.int .i64 a0_0) ∧ w'.cell? ⟨gb197, 1, none⟩ = some (.slice A0_1 l0_1.length c0_1)) (ds := []) z14_0 (by kernel_rfl) rfl rfl ⟨ct_ BK200.out 0, ct_ BK200.out 1, ct_ BK200.out 2, ct_ BK197.out 0, ct_ BK197.out 1⟩ (fun hHeld => ?_); refine with_tabW impl_TurnsOk.tab6 impl_TurnsOk.bits6 (fun HT_ HW_ => ?_)
        generalize w33.drew = w34 at BK197 BK200 HB hHeld ⊢
        refine pu_ 0 22 z14_1 HT_.out ?_
        refine pu_ 2 24 z14_2 HT_.out ?_
        refine tk_ 1 23 z14_3 HT_.out HW_.out hHeld ?_
        refine tk_ 3 25 z14_4 HT_.out HW_.out hHeld ?_
        refine pu_ 4 26 z14_5 HT_.out ?_
        refine pu_ 5 27 z14_6 HT_.out ?_
        refine one_ (i := 6) (N := some 28) z14_7 rfl rfl (one_of HT_.out (by kernel_rfl)) (by decide) (fun K hK => ?_)
        refine go_ Try.func15 #[.int .i64 ((rd_T60 l1 x17_2).f0), .int .i64 0, .int .i64 (wrap64 ((l0_1.length : Int) - 1))] ?_
        with_reducible refine (impl_within.calls ((rd_T60 l1 x17_2).f0) 0 (wrap64 ((l0_1.length : Int) - 1)) true _ A19.out).mono ?_
        rintro e w' ⟨rfl, ⟨nd, rfl⟩⟩
        refine ⟨_, rfl, ?_⟩
        refine hK.out _ _ ⟨ct_ BK200.out 0, ct_ BK200.out 1, ct_ BK200.out 2, ct_ BK197.out 0, ct_ BK197.out 1⟩ (fun hHeld => ?_)
        clear hK K
        refine nm1_ (some 28) ?_
        refine pu_ 7 29 z14_8 HT_.out ?_
        refine pu_ 8 30 z14_9 HT_.out ?_
        refine pu_ 9 31 z14_10 HT_.out ?_
        refine pu_ 11 33 z14_11 HT_.out ?_
        refine tk_ 10 32 z14_12 HT_.out HW_.out hHeld ?_
        refine tk_ 12 34 z14_13 HT_.out HW_.out hHeld ?_
        refine pu_ 13 35 z14_14 HT_.out ?_
        refine pu_ 14 36 z14_15 HT_.out ?_
        refine one_ (i := 15) (N := some 37) z14_16 rfl rfl (one_of HT_.out (by kernel_rfl)) (by decide) (fun K hK => ?_)
        refine go_ Try.func15 #[.int .i64 ((rd_T60 l1 x17_2).f1), .int .i64 0, .int .i64 (wrap64 ((l0_1.length : Int) - 1))] ?_
        with_reducible refine (impl_within.calls ((rd_T60 l1 x17_2).f1) 0 (wrap64 ((l0_1.length : Int) - 1)) false _ A21.out).mono ?_
        rintro e w' ⟨rfl, ⟨nd, rfl⟩⟩
        refine ⟨_, rfl, ?_⟩
        refine hK.out _ _ ⟨ct_ BK200.out 0, ct_ BK200.out 1, ct_ BK200.out 2, ct_ BK197.out 0, ct_ BK197.out 1⟩ (fun hHeld => ?_)
        clear hK K
        refine nm1_ (some 37) ?_
        refine pu_ 16 38 z14_17 HT_.out ?_
        refine pu_ 17 39 z14_18 HT_.out ?_
        refine pu_ 18 40 z14_19 HT_.out ?_
        refine un_ 19 41 z14_20 HT_.out ?_
        refine un_ 20 42 z14_42 HT_.out ?_
        refine un_ 21 43 z14_43 HT_.out ?_
        refine un_ 22 44 z14_44 HT_.out ?_
        refine un_ 23 45 z14_45 HT_.out ?_
        refine un_ 24 46 z14_46 HT_.out ?_
        refine un_ 25 47 z14_47 HT_.out ?_
        refine un_ 26 48 z14_48 HT_.out ?_
        refine un_ 27 49 z14_49 HT_.out ?_
        refine un_ 28 50 z14_29 HT_.out ?_
        refine un_ 29 51 z14_30 HT_.out ?_
        refine un_ 30 52 z14_31 HT_.out ?_
        refine un_ 31 53 z14_32 HT_.out ?_
        refine un_ 32 54 z14_33 HT_.out ?_
        refine un_ 33 55 z14_34 HT_.out ?_
        refine pu_ 34 56 z14_35 HT_.out ?_
        refine pu_ 35 57 z14_36 HT_.out ?_
        refine un_ 36 58 z14_37 HT_.out ?_
        refine un_ 37 59 z14_38 HT_.out ?_
        refine un_ 38 60 z14_39 HT_.out ?_
        refine un_ 39 61 z14_40 HT_.out ?_
        refine pu_ 40 62 z14_41 HT_.out ?_
        refine done_ (done_of HT_.out (by kernel_rfl)) ?_
        try go_wp2
        go_meet
        case rel => exact ⟨_, (true), ns_, H', ⟨by have := HJ2.out; have := HK2.out; first | omega | exact Nat.le_refl _⟩, ⟨nb_ BK197.out⟩, ⟨nb_ BK200.out⟩, ⟨ne_ HB.out⟩⟩
       subst c22
       rw [if_pos rfl] at H
       by_cases c23 : 0 ≤ ((rd_T60 l1 x17_2).f0)
       rotate_left
       ·rw [if_neg c23] at H
        exact absurd H (by simp)
       rw [if_pos c23] at H
       have c23b0 : decide (0 ≤ ((rd_T60 l1 x17_2).f0)) = true := decide_eq_true c23
       clear c23
       (first | rw [c23b0] | (simp only [i64_w, i32_w]; rw [c23b0]) | skip)
       by_cases c24 : ((rd_T60 l1 x17_2).f0) < (l0_1.length : Int)
       rotate_left
       ·rw [if_neg c24] at H
        exact absurd H (by simp)
       rw [if_pos c24] at H
       have c24b0 : decide (((rd_T60 l1 x17_2).f0) < (l0_1.length : Int)) = true := decide_eq_true c24
       clear c24
       by_cases c25 : 0 ≤ ((rd_T60 l1 x17_2).f1)
       rotate_left
       ·rw [if_neg c25] at H
        exact absurd H (by simp)
       rw [if_pos c25] at H
       have c25b0 : decide (0 ≤ ((rd_T60 l1 x17_2).f1)) = true := decide_eq_true c25
       clear c25
       by_cases c26 : ((rd_T60 l1 x17_2).f1) < (l0_1.length : Int)
       rotate_left
       ·rw [if_neg c26] at H
        exact absurd H (by simp)
       rw [if_pos c26] at H
       have c26b0 : decide (((rd_T60 l1 x17_2).f1) < (l0_1.length : Int)) = true := decide_eq_true c26
       clear c26
       by_cases c27 : ((rd_T36 l0_1 ((rd_T60 l1 x17_2).f0)).f1) = ((rd_T36 l0_1 ((rd_T60 l1 x17_2).f1)).f0)
       rotate_left
       ·rw [if_neg c27] at H
        have c27b0 : (((rd_T36 l0_1 ((rd_T60 l1 x17_2).f0)).f1) == ((rd_T36 l0_1 ((rd_T60 l1 x17_2).f1)).f0)) = false := beq_eq_false_iff_ne.mpr c27
        have c27b1 : (((rd_T36 l0_1 ((rd_T60 l1 x17_2).f0)).f1) != ((rd_T36 l0_1 ((rd_T60 l1 x17_2).f1)).f0)) = true := bne_iff_ne.mpr c27
        have H' := Aside0.mk H
        clear H
        try go_wp2
        have n0_ : Aside0 ((((w16.setCell ⟨gb200, 0, none⟩ (.int .i64 ((rd_T60 l1 x17_2).f0))).setCell ⟨gb200, 1, none⟩ (.int .i64 ((rd_T60 l1 x17_2).f1))).setCell ⟨gb200, 2, none⟩ (.int .i64 ((rd_T60 l1 x17_2).f2))).heap[gb197]? = some (.cells #[.int .i64 a0_0, .slice A0_1 l0_1.length c0_1] 25 (0, 0))) := ⟨np_ BK197.out⟩
        have n1_ : Aside0 ((((w16.setCell ⟨gb200, 0, none⟩ (.int .i64 ((rd_T60 l1 x17_2).f0))).setCell ⟨gb200, 1, none⟩ (.int .i64 ((rd_T60 l1 x17_2).f1))).setCell ⟨gb200, 2, none⟩ (.int .i64 ((rd_T60 l1 x17_2).f2))).heap[gb200]? = some (.cells #[.int .i64 ((rd_T60 l1 x17_2).f0), .int .i64 ((rd_T60 l1 x17_2).f1), .int .i64 ((rd_T60 l1 x17_2).f2)] 60 (0, 0))) := ⟨np_ BK200.out⟩
        have n2_ : Aside0 (Below w.heap.size w (((w16.setCell ⟨gb200, 0, none⟩ (.int .i64 ((rd_T60 l1 x17_2).f0))).setCell ⟨gb200, 1, none⟩ (.int .i64 ((rd_T60 l1 x17_2).f1))).setCell ⟨gb200, 2, none⟩ (.int .i64 ((rd_T60 l1 x17_2).f2)))) := ⟨ne_ HB.out⟩
        (try clear BK197)
        (try clear BK200)
        (try clear HB)
        generalize (((w16.setCell ⟨gb200, 0, none⟩ (.int .i64 ((rd_T60 l1 x17_2).f0))).setCell ⟨gb200, 1, none⟩ (.int .i64 ((rd_T60 l1 x17_2).f1))).setCell ⟨gb200, 2, none⟩ (.int .i64 ((rd_T60 l1 x17_2).f2))) = w31 at n0_ n1_ n2_ ⊢
        have BK197 := n0_
        have BK200 := n1_
        have HB := n2_
        clear n0_ n1_ n2_
        replace BK197 := Aside0.mk (blk_drew BK197.out)
        replace BK200 := Aside0.mk (blk_drew BK200.out)
        replace HB := Aside0.mk (below_drew1 HB.out)
        have p203 : 0 ≤ (((rd_T60 l1 x17_2).f0) : Int) := of_decide_eq_true nx_
        have q203 : ((rd_T60 l1 x17_2).f0) < (l0_1.length : Int) := of_decide_eq_true nx_
        obtain ⟨ad203, e203, hx203_0, hx203_1, hx203_2, hx203_3, hx203_4⟩ := at_T36 HR0_1.out ((rd_T60 l1 x17_2).f0) p203 q203
        have hw203_4 := hx203_4
        have hw203_3 := hx203_3
        have hw203_2 := hx203_2
        have hw203_1 := hx203_1
        have hw203_0 := hx203_0
        cases e203
        replace hx203_0 := hb_ HB.out hx203_0
        replace hx203_1 := hb_ HB.out hx203_1
        replace hx203_2 := hb_ HB.out hx203_2
        replace hx203_3 := hb_ HB.out hx203_3
        replace hx203_4 := hb_ HB.out hx203_4
        replace p203 := eq_true p203
        replace q203 := eq_true q203
        have p204 : 0 ≤ (((rd_T60 l1 x17_2).f1) : Int) := of_decide_eq_true nx_
        have q204 : ((rd_T60 l1 x17_2).f1) < (l0_1.length : Int) := of_decide_eq_true nx_
        obtain ⟨ad204, e204, hx204_0, hx204_1, hx204_2, hx204_3, hx204_4⟩ := at_T36 HR0_1.out ((rd_T60 l1 x17_2).f1) p204 q204
        have hw204_4 := hx204_4
        have hw204_3 := hx204_3
        have hw204_2 := hx204_2
        have hw204_1 := hx204_1
        have hw204_0 := hx204_0
        obtain rfl : ad203 = ad204 := (by injection e204)
        replace hx204_0 := hb_ HB.out hx204_0
        replace hx204_1 := hb_ HB.out hx204_1
        replace hx204_2 := hb_ HB.out hx204_2
        replace hx204_3 := hb_ HB.out hx204_3
        replace hx204_4 := hb_ HB.out hx204_4
        replace p204 := eq_true p204
        replace q204 := eq_true q204
        refine start_ (n := 41) (S := fun w' => w'.cell? ⟨gb200, 0, none⟩ = some (.int .i64 ((rd_T60 l1 x17_2).f0)) ∧ w'.cell? ⟨gb200, 1, none⟩ = some (.int .i64 ((rd_T60 l1 x17_2).f1)) ∧ w'.cell? ⟨gb200, 2, none⟩ = some (.int .i64 ((rd_T60 l1 x17_2).f2)) ∧ w'.cell? ⟨gb197, 0, none⟩ = some (.int .i64 a0_0) ∧ w'.cell? ⟨gb197, 1, none⟩ = some (.slice (some ad203) l0_1.length c0_1) ∧ w'.cell? (ad203.add ((((rd_T60 l1 x17_2).f0)).toNat * 5)) = some (.int .i64 ((rd_T36 l0_1 ((rd_T60 l1 x17_2).f0)).f0)) ∧ w'.cell? ⟨(ad203.add ((((rd_T60 l1 x17_2).f0)).toNat * 5)).block, (ad203.add ((((rd_T60 l1 x17_2).f0)).toNat * 5)).off + 1, none⟩ = some (.int .i64 ((rd_T36 l0_1 ((rd_T60 l1 x17_2).f0)).f1)) ∧ w'.cell? ⟨(ad203.add ((((rd_T60 l1 x17_2).f0)).toNat * 5)).block, (ad203.add ((((rd_T60 l1 x17_2).f0)).toNat * 5)).off + 2, none⟩ = some (.int .i64 ((rd_T36 l0_1 ((rd_T60 l1 x17_2).f0)).f2)) ∧ w'.cell? ⟨(ad203.add ((((rd_T60 l1 x17_2).f0)).toNat * 5)).block, (ad203.add ((((rd_T60 l1 x17_2).f0)).toNat * 5)).off + 3, none⟩ = some (.int .i64 ((rd_T36 l0_1 ((rd_T60 l1 x17_2).f0)).f3)) ∧ w'.cell? ⟨(ad203.add ((((rd_T60 l1 x17_2).f0)).toNat * 5)).block, (ad203.add ((((rd_T60 l1 x17_2).f0)).toNat * 5)).off + 4, none⟩ = some (.int .i64 ((rd_T36 l0_1 ((rd_T60 l1 x17_2).f0)).f4)) ∧ w'.cell? (ad203.add ((((rd_T60 l1 x17_2).f1)).toNat * 5)) = some (.int .i64 ((rd_T36 l0_1 ((rd_T60 l1 x17_2).f1)).f0)) ∧ w'.cell? ⟨(ad203.add ((((rd_T60 l1 x17_2).f1)).toNat * 5)).block, (ad203.add ((((rd_T60 l1 x17_2).f1)).toNat * 5)).off + 1, none⟩ = some (.int .i64 ((rd_T36 l0_1 ((rd_T60 l1 x17_2).f1)).f1)) ∧ w'.cell? ⟨(ad203.add ((((rd_T60 l1 x17_2).f1)).toNat * 5)).block, (ad203.add ((((rd_T60 l1 x17_2).f1)).toNat * 5)).off + 2, none⟩ = some (.int .i64 ((rd_T36 l0_1 ((rd_T60 l1 x17_2).f1)).f2)) ∧ w'.cell? ⟨(ad203.add ((((rd_T60 l1 x17_2).f1)).toNat * 5)).block, (ad203.add ((((rd_T60 l1 x17_2).f1)).toNat * 5)).off + 3, none⟩ = some (.int .i64 ((rd_T36 l0_1 ((rd_T60 l1 x17_2).f1)).f3)) ∧ w'.cell? ⟨(ad203.add ((((rd_T60 l1 x17_2).f1)).toNat * 5)).block, (ad203.add ((((rd_T60 l1 x17_2).f1)).toNat * 5)).off + 4, none⟩ = some (.int .i64 ((rd_T36 l0_1 ((rd_T60 l1 x17_2).f1)).f4))) (ds := []) z14_0 (by kernel_rfl) rfl rfl ⟨ct_ BK200.out 0, ct_ BK200.out 1, ct_ BK200.out 2, ct_ BK197.out 0, ct_ BK197.out 1, ((HB.out.cell (World.block_lt_of_cell? w _ hw203_0)).trans hw203_0), ((HB.out.cell (World.block_lt_of_cell? w _ hw203_1)).trans hw203_1), ((HB.out.cell (World.block_lt_of_cell? w _ hw203_2)).trans hw203_2), ((HB.out.cell (World.block_lt_of_cell? w _ hw203_3)).trans hw203_3), ((HB.out.cell (World.block_lt_of_cell? w _ hw203_4)).trans hw203_4), ((HB.out.cell (World.block_lt_of_cell? w _ hw204_0)).trans hw204_0), ((HB.out.cell (World.block_lt_of_cell? w _ hw204_1)).trans hw204_1), ((HB.out.cell (World.block_lt_of_cell? w _ hw204_2)).trans hw204_2), ((HB.out.cell (World.block_lt_of_cell? w _ hw204_3)).trans hw204_3), ((HB.out.cell (World.block_lt_of_cell? w _ hw204_4)).trans hw204_4)⟩ (fun hHeld => ?_); refine with_tabW impl_TurnsOk.tab6 impl_TurnsOk.bits6 (fun HT_ HW_ => ?_)
        generalize w31.drew = w32 at BK197 BK200 HB hx203_0 hx203_1 hx203_2 hx203_3 hx203_4 hx204_0 hx204_1 hx204_2 hx204_3 hx204_4 hHeld ⊢
        refine pu_ 0 22 z14_1 HT_.out ?_
        refine pu_ 2 24 z14_2 HT_.out ?_
        refine tk_ 1 23 z14_3 HT_.out HW_.out hHeld ?_
        refine tk_ 3 25 z14_4 HT_.out HW_.out hHeld ?_
        refine pu_ 4 26 z14_5 HT_.out ?_
        refine pu_ 5 27 z14_6 HT_.out ?_
        refine one_ (i := 6) (N := some 28) z14_7 rfl rfl (one_of HT_.out (by kernel_rfl)) (by decide) (fun K hK => ?_)
        refine go_ Try.func15 #[.int .i64 ((rd_T60 l1 x17_2).f0), .int .i64 0, .int .i64 (wrap64 ((l0_1.length : Int) - 1))] ?_
        with_reducible refine (impl_within.calls ((rd_T60 l1 x17_2).f0) 0 (wrap64 ((l0_1.length : Int) - 1)) true _ A19.out).mono ?_
        rintro e w' ⟨rfl, ⟨nd, rfl⟩⟩
        refine ⟨_, rfl, ?_⟩
        refine hK.out _ _ ⟨ct_ BK200.out 0, ct_ BK200.out 1, ct_ BK200.out 2, ct_ BK197.out 0, ct_ BK197.out 1, ((HB.out.cell (World.block_lt_of_cell? w _ hw203_0)).trans hw203_0), ((HB.out.cell (World.block_lt_of_cell? w _ hw203_1)).trans hw203_1), ((HB.out.cell (World.block_lt_of_cell? w _ hw203_2)).trans hw203_2), ((HB.out.cell (World.block_lt_of_cell? w _ hw203_3)).trans hw203_3), ((HB.out.cell (World.block_lt_of_cell? w _ hw203_4)).trans hw203_4), ((HB.out.cell (World.block_lt_of_cell? w _ hw204_0)).trans hw204_0), ((HB.out.cell (World.block_lt_of_cell? w _ hw204_1)).trans hw204_1), ((HB.out.cell (World.block_lt_of_cell? w _ hw204_2)).trans hw204_2), ((HB.out.cell (World.block_lt_of_cell? w _ hw204_3)).trans hw204_3), ((HB.out.cell (World.block_lt_of_cell? w _ hw204_4)).trans hw204_4)⟩ (fun hHeld => ?_)
        clear hK K
        refine nm1_ (some 28) ?_
        refine pu_ 7 29 z14_8 HT_.out ?_
        refine pu_ 8 30 z14_9 HT_.out ?_
        refine pu_ 9 31 z14_10 HT_.out ?_
        refine pu_ 11 33 z14_11 HT_.out ?_
        refine tk_ 10 32 z14_12 HT_.out HW_.out hHeld ?_
        refine tk_ 12 34 z14_13 HT_.out HW_.out hHeld ?_
        refine pu_ 13 35 z14_14 HT_.out ?_
        refine pu_ 14 36 z14_15 HT_.out ?_
        refine one_ (i := 15) (N := some 37) z14_16 rfl rfl (one_of HT_.out (by kernel_rfl)) (by decide) (fun K hK => ?_)
        refine go_ Try.func15 #[.int .i64 ((rd_T60 l1 x17_2).f1), .int .i64 0, .int .i64 (wrap64 ((l0_1.length : Int) - 1))] ?_
        with_reducible refine (impl_within.calls ((rd_T60 l1 x17_2).f1) 0 (wrap64 ((l0_1.length : Int) - 1)) true _ A21.out).mono ?_
        rintro e w' ⟨rfl, ⟨nd, rfl⟩⟩
        refine ⟨_, rfl, ?_⟩
        refine hK.out _ _ ⟨ct_ BK200.out 0, ct_ BK200.out 1, ct_ BK200.out 2, ct_ BK197.out 0, ct_ BK197.out 1, ((HB.out.cell (World.block_lt_of_cell? w _ hw203_0)).trans hw203_0), ((HB.out.cell (World.block_lt_of_cell? w _ hw203_1)).trans hw203_1), ((HB.out.cell (World.block_lt_of_cell? w _ hw203_2)).trans hw203_2), ((HB.out.cell (World.block_lt_of_cell? w _ hw203_3)).trans hw203_3), ((HB.out.cell (World.block_lt_of_cell? w _ hw203_4)).trans hw203_4), ((HB.out.cell (World.block_lt_of_cell? w _ hw204_0)).trans hw204_0), ((HB.out.cell (World.block_lt_of_cell? w _ hw204_1)).trans hw204_1), ((HB.out.cell (World.block_lt_of_cell? w _ hw204_2)).trans hw204_2), ((HB.out.cell (World.block_lt_of_cell? w _ hw204_3)).trans hw204_3), ((HB.out.cell (World.block_lt_of_cell? w _ hw204_4)).trans hw204_4)⟩ (fun hHeld => ?_)
        clear hK K
        refine nm1_ (some 37) ?_
        refine pu_ 16 38 z14_17 HT_.out ?_
        refine pu_ 17 39 z14_18 HT_.out ?_
        refine pu_ 18 40 z14_19 HT_.out ?_
        refine pu_ 19 41 z14_20 HT_.out ?_
        refine pu_ 21 43 z14_21 HT_.out ?_
        refine pu_ 26 48 z14_22 HT_.out ?_
        refine pu_ 28 50 z14_23 HT_.out ?_
        refine tk_ 20 42 z14_24 HT_.out HW_.out hHeld ?_
        refine tk_ 22 44 z14_25 HT_.out HW_.out hHeld ?_
        refine pu_ 23 45 z14_26 HT_.out ?_
        refine pu_ 24 46 z14_27 HT_.out ?_
        refine tk_ 25 47 z14_28 HT_.out HW_.out hHeld ?_
        refine tk_ 27 49 z14_29 HT_.out HW_.out hHeld ?_
        refine tk_ 29 51 z14_30 HT_.out HW_.out hHeld ?_
        refine pu_ 30 52 z14_31 HT_.out ?_
        refine pu_ 31 53 z14_32 HT_.out ?_
        refine tk_ 32 54 z14_33 HT_.out HW_.out hHeld ?_
        refine pu_ 33 55 z14_34 HT_.out ?_
        refine pu_ 34 56 z14_35 HT_.out ?_
        refine pu_ 35 57 z14_36 HT_.out ?_
        refine un_ 36 58 z14_37 HT_.out ?_
        refine un_ 37 59 z14_38 HT_.out ?_
        refine un_ 38 60 z14_39 HT_.out ?_
        refine un_ 39 61 z14_40 HT_.out ?_
        refine pu_ 40 62 z14_41 HT_.out ?_
        refine done_ (done_of HT_.out (by kernel_rfl)) ?_
        try go_wp2
        go_meet
        case rel => exact ⟨_, (true), ns_, H', ⟨by have := HJ2.out; have := HK2.out; first | omega | exact Nat.le_refl _⟩, ⟨nb_ BK197.out⟩, ⟨nb_ BK200.out⟩, ⟨ne_ HB.out⟩⟩
       rw [if_pos c27] at H
       have c27b0 : (((rd_T36 l0_1 ((rd_T60 l1 x17_2).f0)).f1) == ((rd_T36 l0_1 ((rd_T60 l1 x17_2).f1)).f0)) = true := beq_iff_eq.mpr c27
       have c27b1 : (((rd_T36 l0_1 ((rd_T60 l1 x17_2).f0)).f1) != ((rd_T36 l0_1 ((rd_T60 l1 x17_2).f1)).f0)) = false := bne_eq_false_iff_eq.mpr c27
       clear c27
       replace H := Option.bind_eq_some_iff.mp H
       obtain ⟨t205, A280, H⟩ := H
       try dsimp only at H
       have A28 := Aside0.mk A280
       clear A280
       have H' := Aside0.mk H
       clear H
       try go_wp2
       have n0_ : Aside0 ((((w16.setCell ⟨gb200, 0, none⟩ (.int .i64 ((rd_T60 l1 x17_2).f0))).setCell ⟨gb200, 1, none⟩ (.int .i64 ((rd_T60 l1 x17_2).f1))).setCell ⟨gb200, 2, none⟩ (.int .i64 ((rd_T60 l1 x17_2).f2))).heap[gb197]? = some (.cells #[.int .i64 a0_0, .slice A0_1 l0_1.length c0_1] 25 (0, 0))) := ⟨np_ BK197.out⟩
       have n1_ : Aside0 ((((w16.setCell ⟨gb200, 0, none⟩ (.int .i64 ((rd_T60 l1 x17_2).f0))).setCell ⟨gb200, 1, none⟩ (.int .i64 ((rd_T60 l1 x17_2).f1))).setCell ⟨gb200, 2, none⟩ (.int .i64 ((rd_T60 l1 x17_2).f2))).heap[gb200]? = some (.cells #[.int .i64 ((rd_T60 l1 x17_2).f0), .int .i64 ((rd_T60 l1 x17_2).f1), .int .i64 ((rd_T60 l1 x17_2).f2)] 60 (0, 0))) := ⟨np_ BK200.out⟩
       have n2_ : Aside0 (Below w.heap.size w (((w16.setCell ⟨gb200, 0, none⟩ (.int .i64 ((rd_T60 l1 x17_2).f0))).setCell ⟨gb200, 1, none⟩ (.int .i64 ((rd_T60 l1 x17_2).f1))).setCell ⟨gb200, 2, none⟩ (.int .i64 ((rd_T60 l1 x17_2).f2)))) := ⟨ne_ HB.out⟩
       (try clear BK197)
       (try clear BK200)
       (try clear HB)
       generalize (((w16.setCell ⟨gb200, 0, none⟩ (.int .i64 ((rd_T60 l1 x17_2).f0))).setCell ⟨gb200, 1, none⟩ (.int .i64 ((rd_T60 l1 x17_2).f1))).setCell ⟨gb200, 2, none⟩ (.int .i64 ((rd_T60 l1 x17_2).f2))) = w29 at n0_ n1_ n2_ ⊢
       have BK197 := n0_
       have BK200 := n1_
       have HB := n2_
       clear n0_ n1_ n2_
       replace BK197 := Aside0.mk (blk_drew BK197.out)
       replace BK200 := Aside0.mk (blk_drew BK200.out)
       replace HB := Aside0.mk (below_drew1 HB.out)
       have p203 : 0 ≤ (((rd_T60 l1 x17_2).f0) : Int) := of_decide_eq_true nx_
       have q203 : ((rd_T60 l1 x17_2).f0) < (l0_1.length : Int) := of_decide_eq_true nx_
       obtain ⟨ad203, e203, hx203_0, hx203_1, hx203_2, hx203_3, hx203_4⟩ := at_T36 HR0_1.out ((rd_T60 l1 x17_2).f0) p203 q203
       have hw203_4 := hx203_4
       have hw203_3 := hx203_3
       have hw203_2 := hx203_2
       have hw203_1 := hx203_1
       have hw203_0 := hx203_0
       cases e203
       replace hx203_0 := hb_ HB.out hx203_0
       replace hx203_1 := hb_ HB.out hx203_1
       replace hx203_2 := hb_ HB.out hx203_2
       replace hx203_3 := hb_ HB.out hx203_3
       replace hx203_4 := hb_ HB.out hx203_4
       replace p203 := eq_true p203
       replace q203 := eq_true q203
       have p204 : 0 ≤ (((rd_T60 l1 x17_2).f1) : Int) := of_decide_eq_true nx_
       have q204 : ((rd_T60 l1 x17_2).f1) < (l0_1.length : Int) := of_decide_eq_true nx_
       obtain ⟨ad204, e204, hx204_0, hx204_1, hx204_2, hx204_3, hx204_4⟩ := at_T36 HR0_1.out ((rd_T60 l1 x17_2).f1) p204 q204
       have hw204_4 := hx204_4
       have hw204_3 := hx204_3
       have hw204_2 := hx204_2
       have hw204_1 := hx204_1
       have hw204_0 := hx204_0
       obtain rfl : ad203 = ad204 := (by injection e204)
       replace hx204_0 := hb_ HB.out hx204_0
       replace hx204_1 := hb_ HB.out hx204_1
       replace hx204_2 := hb_ HB.out hx204_2
       replace hx204_3 := hb_ HB.out hx204_3
       replace hx204_4 := hb_ HB.out hx204_4
       replace p204 := eq_true p204
       replace q204 := eq_true q204
       refine start_ (n := 41) (S := fun w' => w'.cell? ⟨gb200, 0, none⟩ = some (.int .i64 ((rd_T60 l1 x17_2).f0)) ∧ w'.cell? ⟨gb200, 1, none⟩ = some (.int .i64 ((rd_T60 l1 x17_2).f1)) ∧ w'.cell? ⟨gb200, 2, none⟩ = some (.int .i64 ((rd_T60 l1 x17_2).f2)) ∧ w'.cell? ⟨gb197, 0, none⟩ = some (.int .i64 a0_0) ∧ w'.cell? ⟨gb197, 1, none⟩ = some (.slice (some ad203) l0_1.length c0_1) ∧ w'.cell? (ad203.add ((((rd_T60 l1 x17_2).f0)).toNat * 5)) = some (.int .i64 ((rd_T36 l0_1 ((rd_T60 l1 x17_2).f0)).f0)) ∧ w'.cell? ⟨(ad203.add ((((rd_T60 l1 x17_2).f0)).toNat * 5)).block, (ad203.add ((((rd_T60 l1 x17_2).f0)).toNat * 5)).off + 1, none⟩ = some (.int .i64 ((rd_T36 l0_1 ((rd_T60 l1 x17_2).f0)).f1)) ∧ w'.cell? ⟨(ad203.add ((((rd_T60 l1 x17_2).f0)).toNat * 5)).block, (ad203.add ((((rd_T60 l1 x17_2).f0)).toNat * 5)).off + 2, none⟩ = some (.int .i64 ((rd_T36 l0_1 ((rd_T60 l1 x17_2).f0)).f2)) ∧ w'.cell? ⟨(ad203.add ((((rd_T60 l1 x17_2).f0)).toNat * 5)).block, (ad203.add ((((rd_T60 l1 x17_2).f0)).toNat * 5)).off + 3, none⟩ = some (.int .i64 ((rd_T36 l0_1 ((rd_T60 l1 x17_2).f0)).f3)) ∧ w'.cell? ⟨(ad203.add ((((rd_T60 l1 x17_2).f0)).toNat * 5)).block, (ad203.add ((((rd_T60 l1 x17_2).f0)).toNat * 5)).off + 4, none⟩ = some (.int .i64 ((rd_T36 l0_1 ((rd_T60 l1 x17_2).f0)).f4)) ∧ w'.cell? (ad203.add ((((rd_T60 l1 x17_2).f1)).toNat * 5)) = some (.int .i64 ((rd_T36 l0_1 ((rd_T60 l1 x17_2).f1)).f0)) ∧ w'.cell? ⟨(ad203.add ((((rd_T60 l1 x17_2).f1)).toNat * 5)).block, (ad203.add ((((rd_T60 l1 x17_2).f1)).toNat * 5)).off + 1, none⟩ = some (.int .i64 ((rd_T36 l0_1 ((rd_T60 l1 x17_2).f1)).f1)) ∧ w'.cell? ⟨(ad203.add ((((rd_T60 l1 x17_2).f1)).toNat * 5)).block, (ad203.add ((((rd_T60 l1 x17_2).f1)).toNat * 5)).off + 2, none⟩ = some (.int .i64 ((rd_T36 l0_1 ((rd_T60 l1 x17_2).f1)).f2)) ∧ w'.cell? ⟨(ad203.add ((((rd_T60 l1 x17_2).f1)).toNat * 5)).block, (ad203.add ((((rd_T60 l1 x17_2).f1)).toNat * 5)).off + 3, none⟩ = some (.int .i64 ((rd_T36 l0_1 ((rd_T60 l1 x17_2).f1)).f3)) ∧ w'.cell? ⟨(ad203.add ((((rd_T60 l1 x17_2).f1)).toNat * 5)).block, (ad203.add ((((rd_T60 l1 x17_2).f1)).toNat * 5)).off + 4, none⟩ = some (.int .i64 ((rd_T36 l0_1 ((rd_T60 l1 x17_2).f1)).f4))) (ds := []) z14_0 (by kernel_rfl) rfl rfl ⟨ct_ BK200.out 0, ct_ BK200.out 1, ct_ BK200.out 2, ct_ BK197.out 0, ct_ BK197.out 1, ((HB.out.cell (World.block_lt_of_cell? w _ hw203_0)).trans hw203_0), ((HB.out.cell (World.block_lt_of_cell? w _ hw203_1)).trans hw203_1), ((HB.out.cell (World.block_lt_of_cell? w _ hw203_2)).trans hw203_2), ((HB.out.cell (World.block_lt_of_cell? w _ hw203_3)).trans hw203_3), ((HB.out.cell (World.block_lt_of_cell? w _ hw203_4)).trans hw203_4), ((HB.out.cell (World.block_lt_of_cell? w _ hw204_0)).trans hw204_0), ((HB.out.cell (World.block_lt_of_cell? w _ hw204_1)).trans hw204_1), ((HB.out.cell (World.block_lt_of_cell? w _ hw204_2)).trans hw204_2), ((HB.out.cell (World.block_lt_of_cell? w _ hw204_3)).trans hw204_3), ((HB.out.cell (World.block_lt_of_cell? w _ hw204_4)).trans hw204_4)⟩ (fun hHeld => ?_); refine with_tabW impl_TurnsOk.tab6 impl_TurnsOk.bits6 (fun HT_ HW_ => ?_)
       generalize w29.drew = w30 at BK197 BK200 HB hx203_0 hx203_1 hx203_2 hx203_3 hx203_4 hx204_0 hx204_1 hx204_2 hx204_3 hx204_4 hHeld ⊢
       refine pu_ 0 22 z14_1 HT_.out ?_
       refine pu_ 2 24 z14_2 HT_.out ?_
       refine tk_ 1 23 z14_3 HT_.out HW_.out hHeld ?_
       refine tk_ 3 25 z14_4 HT_.out HW_.out hHeld ?_
       refine pu_ 4 26 z14_5 HT_.out ?_
       refine pu_ 5 27 z14_6 HT_.out ?_
       refine one_ (i := 6) (N := some 28) z14_7 rfl rfl (one_of HT_.out (by kernel_rfl)) (by decide) (fun K hK => ?_)
       refine go_ Try.func15 #[.int .i64 ((rd_T60 l1 x17_2).f0), .int .i64 0, .int .i64 (wrap64 ((l0_1.length : Int) - 1))] ?_
       with_reducible refine (impl_within.calls ((rd_T60 l1 x17_2).f0) 0 (wrap64 ((l0_1.length : Int) - 1)) true _ A19.out).mono ?_
       rintro e w' ⟨rfl, ⟨nd, rfl⟩⟩
       refine ⟨_, rfl, ?_⟩
       refine hK.out _ _ ⟨ct_ BK200.out 0, ct_ BK200.out 1, ct_ BK200.out 2, ct_ BK197.out 0, ct_ BK197.out 1, ((HB.out.cell (World.block_lt_of_cell? w _ hw203_0)).trans hw203_0), ((HB.out.cell (World.block_lt_of_cell? w _ hw203_1)).trans hw203_1), ((HB.out.cell (World.block_lt_of_cell? w _ hw203_2)).trans hw203_2), ((HB.out.cell (World.block_lt_of_cell? w _ hw203_3)).trans hw203_3), ((HB.out.cell (World.block_lt_of_cell? w _ hw203_4)).trans hw203_4), ((HB.out.cell (World.block_lt_of_cell? w _ hw204_0)).trans hw204_0), ((HB.out.cell (World.block_lt_of_cell? w _ hw204_1)).trans hw204_1), ((HB.out.cell (World.block_lt_of_cell? w _ hw204_2)).trans hw204_2), ((HB.out.cell (World.block_lt_of_cell? w _ hw204_3)).trans hw204_3), ((HB.out.cell (World.block_lt_of_cell? w _ hw204_4)).trans hw204_4)⟩ (fun hHeld => ?_)
       clear hK K
       refine nm1_ (some 28) ?_
       refine pu_ 7 29 z14_8 HT_.out ?_
       refine pu_ 8 30 z14_9 HT_.out ?_
       refine pu_ 9 31 z14_10 HT_.out ?_
       refine pu_ 11 33 z14_11 HT_.out ?_
       refine tk_ 10 32 z14_12 HT_.out HW_.out hHeld ?_
       refine tk_ 12 34 z14_13 HT_.out HW_.out hHeld ?_
       refine pu_ 13 35 z14_14 HT_.out ?_
       refine pu_ 14 36 z14_15 HT_.out ?_
       refine one_ (i := 15) (N := some 37) z14_16 rfl rfl (one_of HT_.out (by kernel_rfl)) (by decide) (fun K hK => ?_)
       refine go_ Try.func15 #[.int .i64 ((rd_T60 l1 x17_2).f1), .int .i64 0, .int .i64 (wrap64 ((l0_1.length : Int) - 1))] ?_
       with_reducible refine (impl_within.calls ((rd_T60 l1 x17_2).f1) 0 (wrap64 ((l0_1.length : Int) - 1)) true _ A21.out).mono ?_
       rintro e w' ⟨rfl, ⟨nd, rfl⟩⟩
       refine ⟨_, rfl, ?_⟩
       refine hK.out _ _ ⟨ct_ BK200.out 0, ct_ BK200.out 1, ct_ BK200.out 2, ct_ BK197.out 0, ct_ BK197.out 1, ((HB.out.cell (World.block_lt_of_cell? w _ hw203_0)).trans hw203_0), ((HB.out.cell (World.block_lt_of_cell? w _ hw203_1)).trans hw203_1), ((HB.out.cell (World.block_lt_of_cell? w _ hw203_2)).trans hw203_2), ((HB.out.cell (World.block_lt_of_cell? w _ hw203_3)).trans hw203_3), ((HB.out.cell (World.block_lt_of_cell? w _ hw203_4)).trans hw203_4), ((HB.out.cell (World.block_lt_of_cell? w _ hw204_0)).trans hw204_0), ((HB.out.cell (World.block_lt_of_cell? w _ hw204_1)).trans hw204_1), ((HB.out.cell (World.block_lt_of_cell? w _ hw204_2)).trans hw204_2), ((HB.out.cell (World.block_lt_of_cell? w _ hw204_3)).trans hw204_3), ((HB.out.cell (World.block_lt_of_cell? w _ hw204_4)).trans hw204_4)⟩ (fun hHeld => ?_)
       clear hK K
       refine nm1_ (some 37) ?_
       refine pu_ 16 38 z14_17 HT_.out ?_
       refine pu_ 17 39 z14_18 HT_.out ?_
       refine pu_ 18 40 z14_19 HT_.out ?_
       refine pu_ 19 41 z14_20 HT_.out ?_
       refine pu_ 21 43 z14_21 HT_.out ?_
       refine pu_ 26 48 z14_22 HT_.out ?_
       refine pu_ 28 50 z14_23 HT_.out ?_
       refine tk_ 20 42 z14_24 HT_.out HW_.out hHeld ?_
       refine tk_ 22 44 z14_25 HT_.out HW_.out hHeld ?_
       refine pu_ 23 45 z14_26 HT_.out ?_
       refine pu_ 24 46 z14_27 HT_.out ?_
       refine tk_ 25 47 z14_28 HT_.out HW_.out hHeld ?_
       refine tk_ 27 49 z14_29 HT_.out HW_.out hHeld ?_
       refine tk_ 29 51 z14_30 HT_.out HW_.out hHeld ?_
       refine pu_ 30 52 z14_31 HT_.out ?_
       refine pu_ 31 53 z14_32 HT_.out ?_
       refine tk_ 32 54 z14_33 HT_.out HW_.out hHeld ?_
       refine pu_ 33 55 z14_34 HT_.out ?_
       refine pu_ 34 56 z14_35 HT_.out ?_
       refine pu_ 35 57 z14_36 HT_.out ?_
       refine pu_ 36 58 z14_37 HT_.out ?_
       refine tk_ 37 59 z14_38 HT_.out HW_.out hHeld ?_
       refine one_ (i := 38) (N := some 60) z14_39 rfl rfl (one_of HT_.out (by kernel_rfl)) (by decide) (fun K hK => ?_)
       refine go_ Try.func15 #[.int .i64 ((rd_T60 l1 x17_2).f2), .int .i64 (-1), .int .i64 99] ?_
       with_reducible refine (impl_within.calls ((rd_T60 l1 x17_2).f2) (-1) 99 t205 _ A28.out).mono ?_
       rintro e w' ⟨rfl, ⟨nd, rfl⟩⟩
       refine ⟨_, rfl, ?_⟩
       refine hK.out _ _ ⟨ct_ BK200.out 0, ct_ BK200.out 1, ct_ BK200.out 2, ct_ BK197.out 0, ct_ BK197.out 1, ((HB.out.cell (World.block_lt_of_cell? w _ hw203_0)).trans hw203_0), ((HB.out.cell (World.block_lt_of_cell? w _ hw203_1)).trans hw203_1), ((HB.out.cell (World.block_lt_of_cell? w _ hw203_2)).trans hw203_2), ((HB.out.cell (World.block_lt_of_cell? w _ hw203_3)).trans hw203_3), ((HB.out.cell (World.block_lt_of_cell? w _ hw203_4)).trans hw203_4), ((HB.out.cell (World.block_lt_of_cell? w _ hw204_0)).trans hw204_0), ((HB.out.cell (World.block_lt_of_cell? w _ hw204_1)).trans hw204_1), ((HB.out.cell (World.block_lt_of_cell? w _ hw204_2)).trans hw204_2), ((HB.out.cell (World.block_lt_of_cell? w _ hw204_3)).trans hw204_3), ((HB.out.cell (World.block_lt_of_cell? w _ hw204_4)).trans hw204_4)⟩ (fun hHeld => ?_)
       clear hK K
       refine nm1_ (some 60) ?_
       refine pu_ 39 61 z14_40 HT_.out ?_
       refine pu_ 40 62 z14_41 HT_.out ?_
       refine done_ (done_of HT_.out (by kernel_rfl)) ?_
       try go_wp2
       go_meet
       case rel => exact ⟨_, (!t205), ns_, H', ⟨by have := HJ2.out; have := HK2.out; first | omega | exact Nat.le_refl _⟩, ⟨nb_ BK197.out⟩, ⟨nb_ BK200.out⟩, ⟨ne_ HB.out⟩⟩
      case rest =>
       clear HC15
       try clear c1
       obtain ⟨kq, x62_14, rfl, HA, HJ14, BK197, BK200, HB⟩ := hcut
       cases kq with
       | zero => exact absurd HA.out (by simp [impl_TurnsOk.j2])
       | succ kj14 =>
        have H := HA.out
        clear HA
        simp only [impl_TurnsOk.j2] at H
        by_cases c37 : x62_14 = true
        ·subst c37
         have H1 : (some false) = some r := by rw [if_pos rfl] at H; exact H
         clear H
         have H := H1
         clear H1
         obtain rfl := Option.some.inj H
         go_wp2
         go_ret
         exact ⟨nw_, ne_ HB.out⟩
        replace c37 := Bool.eq_false_iff.mpr c37
        subst c37
        have H1 : (if 0 ≤ x17_2 then (if x17_2 ≤ (l1.length : Int) then ((impl_Turn_32.f (l1.take (x17_2 : Int).toNat) ((rd_T60 l1 x17_2).f0) ((rd_T60 l1 x17_2).f1) ((rd_T60 l1 x17_2).f2)).bind fun t210 => (if t210 = true then (some false) else (impl_TurnsOk.l0 kj14 l1 l1 (l1.length : Int) (wrap64 (x17_2 + 1)) a0_0 l0_1))) else (none)) else (none)) = some r := by rw [if_neg (show ¬ (false = true) by decide)] at H; exact H
        clear H
        have H := H1
        clear H1
        by_cases c38 : 0 ≤ x17_2
        rotate_left
        ·rw [if_neg c38] at H
         exact absurd H (by simp)
        rw [if_pos c38] at H
        have c38b0 := eq_true c38
        have c38b1 : decide (0 ≤ x17_2) = true := decide_eq_true c38
        clear c38
        by_cases c39 : x17_2 ≤ (l1.length : Int)
        rotate_left
        ·rw [if_neg c39] at H
         exact absurd H (by simp)
        rw [if_pos c39] at H
        have c39b0 := eq_true c39
        have c39b1 : decide (x17_2 ≤ (l1.length : Int)) = true := decide_eq_true c39
        clear c39
        obtain ⟨y206, hy206⟩ : ∃ y_ : List (S60), y_ = (l1.take (x17_2 : Int).toNat) := ⟨_, rfl⟩
        replace H : ((impl_Turn_32.f y206 ((rd_T60 l1 x17_2).f0) ((rd_T60 l1 x17_2).f1) ((rd_T60 l1 x17_2).f2)).bind fun t210 => (if t210 = true then (some false) else (impl_TurnsOk.l0 kj14 l1 l1 (l1.length : Int) (wrap64 (x17_2 + 1)) a0_0 l0_1))) = some r := by first | (rw [hy206]; with_reducible exact H) | (have H2_ := (Option.bind_some _ _).symm.trans H; rw [hy206]; with_reducible exact H2_) | (have H2_ := (Option.bind_some _ _).symm.trans H; with_reducible exact H2_) | with_reducible exact H | (rw [hy206]; exact H) | exact H
        have Ny206 := Aside0.mk hy206
        clear hy206
        replace H := Option.bind_eq_some_iff.mp H
        obtain ⟨t210, A400, H⟩ := H
        try dsimp only at H
        have A40 := Aside0.mk A400
        clear A400
        by_cases c41 : t210 = true
        ·subst c41
         have H1 : (some false) = some r := by rw [if_pos rfl] at H; exact H
         clear H
         have H := H1
         clear H1
         obtain rfl := Option.some.inj H
         have q42 : (x17_2 : Int) ≤ ((l1.length : Int) : Int) := of_decide_eq_true nx_
         obtain ⟨i042, hi042, _, hsz42, _⟩ := info_parts info60
         have hroom42 : l1.length ≤ c1 := HC1.out
         have hC42 : Kd.C k60 _ (some ad199) l1.length l1 := HR1.out
         have hcut42 := cut_to (P := Try.prog) 26 60 .i64 Try.underlying26 hi042 (some ad199) l1.length c1 x17_2 (of_decide_eq_true nx_) q42 hroom42
         have hr42 := Kd.C_take (m := (x17_2 : Int).toNat) hC42 (by omega)
         have hy42 : y206.length = (x17_2 : Int).toNat := (by rw [Ny206.out, List.length_take]; omega)
         rw [← Ny206.out] at hr42
         rw [← hy42] at hcut42
         have HR209 := Aside0.mk hr42
         have HC209 := Aside0.mk (show y206.length ≤ c1 from by omega)
         clear hr42 hC42 hroom42 hi042 hsz42
         have KY42 := Aside0.mk hy42
         clear hy42
         replace q42 := eq_true q42
         have hnb43 := NB200_197.out
         have hnc43 := NB197_200.out
         obtain ⟨hcz44_0, hcz44_1, hcz44_2, hfz44_0, hfz44_1, hfz44_2⟩ := cz3_ BK200.out
         go_wp2_with (first | ((with_reducible refine gate_callee (f := 32) rfl ?_); refine gl_ (some 67) Try.func32 #[.slice (some ad199) y206.length c1, .func (.func 33) #[] #[.pointer (some ⟨gb200, 0, none⟩)]] ?_; (with_reducible refine (impl_Turn_32.callsB gb200 _ _ y206 ((rd_T60 l1 x17_2).f0) ((rd_T60 l1 x17_2).f1) ((rd_T60 l1 x17_2).f2) true _ ?side1 ?side2 (np_ BK200.out) A40.out).mono ?_); (case side1 => exact nc_ (Kd.C_below HR209.out HB.out)); (case side2 => exact HC209.out); rintro e w45 ⟨rfl, hb⟩; refine ⟨_, rfl, ?_⟩; replace BK197 := kb_ BK197 hb; replace BK200 := kb_ BK200 hb; replace HB := kB_ HB hb; (try clear hb); (try clear hb2); (try clear hk); (try clear hi)))
         go_ret
         exact ⟨nw_, ne_ HB.out⟩
        replace c41 := Bool.eq_false_iff.mpr c41
        subst c41
        have H1 : (impl_TurnsOk.l0 kj14 l1 l1 (l1.length : Int) (wrap64 (x17_2 + 1)) a0_0 l0_1) = some r := by rw [if_neg (show ¬ (false = true) by decide)] at H; exact H
        clear H
        have H := H1
        clear H1
        have H' := Aside0.mk H
        clear H
        have q46 : (x17_2 : Int) ≤ ((l1.length : Int) : Int) := of_decide_eq_true nx_
        obtain ⟨i046, hi046, _, hsz46, _⟩ := info_parts info60
        have hroom46 : l1.length ≤ c1 := HC1.out
        have hC46 : Kd.C k60 _ (some ad199) l1.length l1 := HR1.out
        have hcut46 := cut_to (P := Try.prog) 26 60 .i64 Try.underlying26 hi046 (some ad199) l1.length c1 x17_2 (of_decide_eq_true nx_) q46 hroom46
        have hr46 := Kd.C_take (m := (x17_2 : Int).toNat) hC46 (by omega)
        have hy46 : y206.length = (x17_2 : Int).toNat := (by rw [Ny206.out, List.length_take]; omega)
        rw [← Ny206.out] at hr46
        rw [← hy46] at hcut46
        have HR209 := Aside0.mk hr46
        have HC209 := Aside0.mk (show y206.length ≤ c1 from by omega)
        clear hr46 hC46 hroom46 hi046 hsz46
        have KY46 := Aside0.mk hy46
        clear hy46
        replace q46 := eq_true q46
        have hnb47 := NB200_197.out
        have hnc47 := NB197_200.out
        obtain ⟨hcz48_0, hcz48_1, hcz48_2, hfz48_0, hfz48_1, hfz48_2⟩ := cz3_ BK200.out
        go_wp2_with (first | ((with_reducible refine gate_callee (f := 32) rfl ?_); refine gl_ (some 67) Try.func32 #[.slice (some ad199) y206.length c1, .func (.func 33) #[] #[.pointer (some ⟨gb200, 0, none⟩)]] ?_; (with_reducible refine (impl_Turn_32.callsB gb200 _ _ y206 ((rd_T60 l1 x17_2).f0) ((rd_T60 l1 x17_2).f1) ((rd_T60 l1 x17_2).f2) false _ ?side1 ?side2 (np_ BK200.out) A40.out).mono ?_); (case side1 => exact nc_ (Kd.C_below HR209.out HB.out)); (case side2 => exact HC209.out); rintro e w49 ⟨rfl, hb⟩; refine ⟨_, rfl, ?_⟩; replace BK197 := kb_ BK197 hb; replace BK200 := kb_ BK200 hb; replace HB := kB_ HB hb; (try clear hb); (try clear hb2); (try clear hk); (try clear hi)))
        go_roundg kj14
        case measure => have := HJ2.out; have := HK2.out; have := HJ14.out; omega
        case rel => exact ⟨(wrap64 (x17_2 + 1)), ns_, H', ⟨by have := HJ2.out; have := HK2.out; have := HJ14.out; omega⟩, ⟨nb_ BK197.out⟩, ⟨ne_ HB.out⟩⟩
end Go.Proofs.Ytfijdkjibjdbiaa.Print
