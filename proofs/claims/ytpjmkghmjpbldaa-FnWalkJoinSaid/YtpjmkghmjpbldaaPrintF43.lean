-- Made by this session's own program (wip/patch_print.py, over the kit's print). Lean checks it.
import Derived.Test.YtpjmkghmjpbldaaPrint0
import Derived.Test.YtpjmkghmjpbldaaPrintB
import Derived.Test.YtpjmkghmjpbldaaPrintF22
namespace Go.Proofs.Ytpjmkghmjpbldaa.Print
open Go.RowKit Go.Proofs.YtpjmkghmjpbldaaW.PrintWords Go.Proofs.YtpjmkghmjpbldaaW.PrintLast Go.Proofs.YtpjmkghmjpbldaaW.PrintMore Go.Proofs.YtpjmkghmjpbldaaX
attribute [local go_sem] max2_int min2_int max_two min_two max_three min_three max_four min_four   -- for this text's walks alone
set_option linter.unusedVariables false
set_option linter.unusedSimpArgs false

abbrev z43_0 := bm_ 30 0
abbrev z43_1 := bm_ 30 1
abbrev z43_2 := bm_ 30 3
abbrev z43_3 := bm_ 30 7
abbrev z43_4 := bm_ 30 15
abbrev z43_5 := bm_ 30 31
abbrev z43_6 := bm_ 30 63
abbrev z43_7 := bm_ 30 127
abbrev z43_8 := bm_ 30 255
abbrev z43_9 := bm_ 30 511
abbrev z43_10 := bm_ 30 1023
abbrev z43_11 := bm_ 30 2047
abbrev z43_12 := bm_ 30 4095
abbrev z43_13 := bm_ 30 12287
abbrev z43_14 := bm_ 30 28671
abbrev z43_15 := bm_ 30 61439
abbrev z43_16 := bm_ 30 126975
abbrev z43_17 := bm_ 30 2224127
abbrev z43_18 := bm_ 30 10612735
abbrev z43_19 := bm_ 30 10616831
abbrev z43_20 := bm_ 30 10747903
abbrev z43_21 := bm_ 30 11010047
abbrev z43_22 := bm_ 30 11534335
abbrev z43_23 := bm_ 30 12582911
abbrev z43_24 := bm_ 30 16777215
abbrev z43_25 := bm_ 30 33554431
abbrev z43_26 := bm_ 30 67108863
abbrev z43_27 := bm_ 30 134217727
abbrev z43_28 := bm_ 30 268435455
abbrev z43_29 := bm_ 30 536870911
abbrev z43_30 := bm_ 30 1073741823
abbrev z43_31 := bm_ 30 8191
abbrev z43_32 := bm_ 30 16383
abbrev z43_33 := bm_ 30 32767
abbrev z43_34 := bm_ 30 65535
abbrev z43_35 := bm_ 30 131071
abbrev z43_36 := bm_ 30 262143
abbrev z43_37 := bm_ 30 524287
abbrev z43_38 := bm_ 30 1048575
abbrev z43_39 := bm_ 30 2097151
abbrev z43_40 := bm_ 30 4194303
abbrev z43_41 := bm_ 30 8388607
/-! ### impl_WalkOk: function 43 -/
mutual
def impl_WalkOk.j0 : Nat → List Int → Bool → Int → List (S37) → Option (Bool)
  | 0, _, _, _, _ => none
  | k + 1, x1, x14, x629000, x629001 => if x14 = true then (some false) else (impl_WalkOk.l0 k x1 x1 (x1.length : Int) 0 x629000 x629001)
def impl_WalkOk.l0 : Nat → List Int → List Int → Int → Int → Int → List (S37) → Option (Bool)
  | 0, _, _, _, _, _, _ => none
  | k + 1, x1, x15, x16, x17, x629000, x629001 => if x17 < x16 then (if 0 ≤ x17 then (if x17 < (x15.length : Int) then ((impl_within.f (rd x15 x17) 0 (wrap64 ((x629001.length : Int) - 1))).bind fun t631 => (if t631 = true then (if x17 > 0 then (if 0 ≤ (wrap64 (x17 - 1)) then (if (wrap64 (x17 - 1)) < (x1.length : Int) then (if 0 ≤ (rd x1 (wrap64 (x17 - 1))) then (if (rd x1 (wrap64 (x17 - 1))) < (x629001.length : Int) then (if 0 ≤ (rd x15 x17) then (if (rd x15 x17) < (x629001.length : Int) then (if ((rd_T37 x629001 (rd x1 (wrap64 (x17 - 1)))).f1) = ((rd_T37 x629001 (rd x15 x17)).f0) then (impl_WalkOk.l0 k x1 x15 x16 (wrap64 (x17 + 1)) x629000 x629001) else (some false)) else (none)) else (none)) else (none)) else (none)) else (none)) else (none)) else (impl_WalkOk.l0 k x1 x15 x16 (wrap64 (x17 + 1)) x629000 x629001)) else (some false))) else (none)) else (none)) else (some true)
end
def impl_WalkOk.f (k : Nat) (a0_0 : Int) (l0_1 : List (S37)) (l1 : List Int) : Option (Bool) := (impl_NetOk.f a0_0 l0_1).bind fun t629 => (if t629 = true then (impl_WalkOk.j0 k l1 (decide ((l1.length : Int) > 20)) a0_0 l0_1) else (impl_WalkOk.j0 k l1 true a0_0 l0_1))
theorem impl_WalkOk.mono_l : ∀ k, (∀ y0 y1 y2 y3, LeO (impl_WalkOk.j0 k y0 y1 y2 y3) (impl_WalkOk.j0 (k + 1) y0 y1 y2 y3)) ∧ (∀ y0 y1 y2 y3 y4 y5, LeO (impl_WalkOk.l0 k y0 y1 y2 y3 y4 y5) (impl_WalkOk.l0 (k + 1) y0 y1 y2 y3 y4 y5))
  | 0 => ⟨fun _ _ _ _ r h => by simp [impl_WalkOk.j0] at h, fun _ _ _ _ _ _ r h => by simp [impl_WalkOk.l0] at h⟩
  | k + 1 => by
    obtain ⟨ih0, ih1⟩ := impl_WalkOk.mono_l k
    refine ⟨?_, ?_⟩
    · intro y0 y1 y2 y3
      unfold impl_WalkOk.j0
      repeat' first | (with_reducible first | exact ih0 _ _ _ _ | exact ih1 _ _ _ _ _ _ | exact LeO.refl _ | exact LeO.none _ | refine LeO.ite ?_ ?_ | refine LeO.bind ?_ (fun _ => ?_)) | exact ih0 _ _ _ _ | exact ih1 _ _ _ _ _ _ | exact LeO.none _ | refine LeO.ite ?_ ?_ | refine LeO.bind ?_ (fun _ => ?_)
    · intro y0 y1 y2 y3 y4 y5
      unfold impl_WalkOk.l0
      repeat' first | (with_reducible first | exact ih0 _ _ _ _ | exact ih1 _ _ _ _ _ _ | exact LeO.refl _ | exact LeO.none _ | refine LeO.ite ?_ ?_ | refine LeO.bind ?_ (fun _ => ?_)) | exact ih0 _ _ _ _ | exact ih1 _ _ _ _ _ _ | exact LeO.none _ | refine LeO.ite ?_ ?_ | refine LeO.bind ?_ (fun _ => ?_)
theorem impl_WalkOk.mono : ∀ a0 a1 a2 k, LeO (impl_WalkOk.f k a0 a1 a2) (impl_WalkOk.f (k + 1) a0 a1 a2) := by
  intro a0 a1 a2 k
  obtain ⟨ih0, ih1⟩ := impl_WalkOk.mono_l k
  unfold impl_WalkOk.f
  repeat' first | (with_reducible first | exact ih0 _ _ _ _ | exact ih1 _ _ _ _ _ _ | exact LeO.refl _ | exact LeO.none _ | refine LeO.ite ?_ ?_ | refine LeO.bind ?_ (fun _ => ?_)) | exact ih0 _ _ _ _ | exact ih1 _ _ _ _ _ _ | exact LeO.none _ | refine LeO.ite ?_ ?_ | refine LeO.bind ?_ (fun _ => ?_)
def impl_WalkOk.T6 : Bool × List (List Nat × List Nat) := (true, [([], []), ([], []), ([1], [1]), ([2], [2]), ([3], [3]), ([0, 4], [0, 4]), ([5], [5]), ([6, 5], [6]), ([7], [7]), ([8, 7], [7, 8]), ([9, 7, 7], [7, 9]), ([10], [10]), ([11, 10], [10, 11]), ([10], [10]), ([10], [10]), ([14, 10], [10, 14]), ([13, 15, 10], [10, 13, 15]), ([16, 10], [10, 16]), ([12, 17, 10], [10, 12, 17]), ([18, 10], [10, 18]), ([19, 10], [10, 19]), ([10], [10]), ([21, 10], [10, 21]), ([10], [10]), ([22, 23, 10], [10, 22, 23]), ([24, 10], [10, 24]), ([25, 10], [10, 25]), ([20, 26, 10], [10, 20, 26]), ([10, 27, 7], [7, 10, 27]), ([7, 28], [7, 28])])
def impl_WalkOk.B6 : List Nat := [0, 0, 2, 6, 14, 31, 63, 127, 255, 511, 1023, 2047, 4095, 2047, 2047, 18431, 59391, 124927, 262143, 524287, 1048575, 2047, 2099199, 2047, 14682111, 31459327, 65013759, 134217727, 268435455, 536870911]
theorem impl_WalkOk.tab6 : rtab .any (opsOf Try.f43 6) = impl_WalkOk.T6 := by kernel_rfl
theorem impl_WalkOk.bits6 : waitsOk impl_WalkOk.T6.2 impl_WalkOk.B6 = true := by kernel_rfl
set_option maxHeartbeats 200000000 in
set_option maxRecDepth 100000 in
theorem impl_WalkOk.calls (k : Nat) (a0_0 : Int) (A0_1 : Option Addr) (c0_1 : Nat) (l0_1 : List (S37)) (A1 : Option Addr) (c1 : Nat) (l1 : List Int) (r : Bool) (w : World) (hr0_1 : Kd.C k37 w A0_1 l0_1.length l0_1) (hc0_1 : l0_1.length ≤ c0_1) (hr1 : Kd.C (Kd.int .i64) w A1 l1.length l1) (hc1 : l1.length ≤ c1) (h : impl_WalkOk.f k a0_0 l0_1 l1 = some r) :
    Calls Try.prog 43 #[.agg #[.int .i64 a0_0, .slice A0_1 l0_1.length c0_1], .slice A1 l1.length c1] w fun e w' => e = .returned (.bool r) ∧ Below w.heap.size w w' := by
  have hu29 := Try.underlying29
  have HR0_1 := Aside0.mk hr0_1
  have HC0_1 := Aside0.mk hc0_1
  clear hr0_1 hc0_1
  have HR1 := Aside0.mk hr1
  have HC1 := Aside0.mk hc1
  clear hr1 hc1
  have HB := Aside0.mk (Below.refl w.heap.size w)
  have H : ((impl_NetOk.f a0_0 l0_1).bind fun t629 => (if t629 = true then (impl_WalkOk.j0 k l1 (decide ((l1.length : Int) > 20)) a0_0 l0_1) else (impl_WalkOk.j0 k l1 true a0_0 l0_1))) = some r := h
  clear h
  have HC3 := Aside0.mk H
  clear H
  go_enter Try.func43, Try.ntmps43
  go_upto_region 1 with (first | ((with_reducible refine gate_dst (N := 2) rfl ?_); (try (refine gate_guard (by rfl) ?_; dsimp only)); refine bx_ 2 #[.int .i64 a0_0, .slice A0_1 l0_1.length c0_1] 29 ?_; intro gb628 hg w4 hbox hb; have BK628 := Aside0.mk (hbox); have GW628 := Aside0.mk (zs_ hg (ne_ HB.out)); have GE628 := Aside0.mk (zs_ hg (ne_ HB.out)); replace HB := kB_ HB hb; clear hb hbox hg))
  (try simp only [Act.put, List.setIfInBounds_toArray, List.set_cons_zero, List.set_cons_succ])
  go_cut [14] (fun v14 wc => ∃ (kq : Nat) (x14_2 : Bool), v14 = .bool x14_2 ∧ Aside0 (impl_WalkOk.j0 kq l1 x14_2 a0_0 l0_1 = some r) ∧ Aside0 (kq ≤ k) ∧ Aside0 (wc.heap[gb628]? = some (.cells #[.int .i64 a0_0, (.slice A0_1 l0_1.length c0_1)] 29 (0, 0))) ∧ Aside0 (Below w.heap.size w wc))
  case first =>
   have H := HC3.out
   clear HC3
   replace H := Option.bind_eq_some_iff.mp H
   obtain ⟨t629, A50, H⟩ := H
   try dsimp only at H
   have A5 := Aside0.mk A50
   clear A50
   by_cases c6 : t629 = true
   ·subst c6
    have H1 : (impl_WalkOk.j0 k l1 (decide ((l1.length : Int) > 20)) a0_0 l0_1) = some r := by rw [if_pos rfl] at H; exact H
    clear H
    have H := H1
    clear H1
    have H' := Aside0.mk H
    clear H
    obtain ⟨hcz7_0, hcz7_1, hfz7_0, hfz7_1⟩ := cz2_ BK628.out
    go_wp2_with (first | ((with_reducible refine gate_callee (f := 22) rfl ?_); refine gl_ (some 8) Try.func22 #[.agg #[.int .i64 a0_0, .slice A0_1 l0_1.length c0_1]] ?_; (with_reducible refine (impl_NetOk.calls a0_0 _ _ l0_1 true _ ?side1 ?side2 A5.out).mono ?_); (case side1 => exact nc_ (Kd.C_below HR0_1.out HB.out)); (case side2 => exact HC0_1.out); rintro e w8 ⟨rfl, hb⟩; refine ⟨_, rfl, ?_⟩; replace BK628 := kb_ BK628 hb; replace HB := kB_ HB hb; (try clear hb); (try clear hb2); (try clear hk); (try clear hi)))
    go_meet
    case rel => exact ⟨_, (decide ((l1.length : Int) > 20)), ns_, H', ⟨by first | omega | exact Nat.le_refl _⟩, ⟨nb_ BK628.out⟩, ⟨ne_ HB.out⟩⟩
   replace c6 := Bool.eq_false_iff.mpr c6
   subst c6
   have H1 : (impl_WalkOk.j0 k l1 true a0_0 l0_1) = some r := by rw [if_neg (show ¬ (false = true) by decide)] at H; exact H
   clear H
   have H := H1
   clear H1
   have H' := Aside0.mk H
   clear H
   obtain ⟨hcz9_0, hcz9_1, hfz9_0, hfz9_1⟩ := cz2_ BK628.out
   go_wp2_with (first | ((with_reducible refine gate_callee (f := 22) rfl ?_); refine gl_ (some 8) Try.func22 #[.agg #[.int .i64 a0_0, .slice A0_1 l0_1.length c0_1]] ?_; (with_reducible refine (impl_NetOk.calls a0_0 _ _ l0_1 false _ ?side1 ?side2 A5.out).mono ?_); (case side1 => exact nc_ (Kd.C_below HR0_1.out HB.out)); (case side2 => exact HC0_1.out); rintro e w10 ⟨rfl, hb⟩; refine ⟨_, rfl, ?_⟩; replace BK628 := kb_ BK628 hb; replace HB := kB_ HB hb; (try clear hb); (try clear hb2); (try clear hk); (try clear hi)))
   go_meet
   case rel => exact ⟨_, (true), ns_, H', ⟨by first | omega | exact Nat.le_refl _⟩, ⟨nb_ BK628.out⟩, ⟨ne_ HB.out⟩⟩
  case rest =>
   clear HC3
   try clear c1
   obtain ⟨kq, x14_2, rfl, HA, HJ2, BK628, HB⟩ := hcut
   cases kq with
   | zero => exact absurd HA.out (by simp [impl_WalkOk.j0])
   | succ kj2 =>
    have H := HA.out
    clear HA
    simp only [impl_WalkOk.j0] at H
    by_cases c11 : x14_2 = true
    ·subst c11
     have H1 : (some false) = some r := by rw [if_pos rfl] at H; exact H
     clear H
     have H := H1
     clear H1
     obtain rfl := Option.some.inj H
     go_wp2
     go_ret
     exact ⟨nw_, ne_ HB.out⟩
    replace c11 := Bool.eq_false_iff.mpr c11
    subst c11
    have H1 : (impl_WalkOk.l0 kj2 l1 l1 (l1.length : Int) 0 a0_0 l0_1) = some r := by rw [if_neg (show ¬ (false = true) by decide)] at H; exact H
    clear H
    have H := H1
    clear H1
    have H' := Aside0.mk H
    clear H
    go_wp2
    go_loopg [17] kj2 (fun kq v17 w' => ∃ (x17_2 : Int), v17 = .int .i64 x17_2 ∧ Aside0 (impl_WalkOk.l0 kq l1 l1 (l1.length : Int) x17_2 a0_0 l0_1 = some r) ∧ Aside0 (kq ≤ kj2) ∧ Aside0 (w'.heap[gb628]? = some (.cells #[.int .i64 a0_0, (.slice A0_1 l0_1.length c0_1)] 29 (0, 0))) ∧ Aside0 (Below w.heap.size w w'))
    case atStart => exact ⟨(0), ns_, H', ⟨Nat.le_refl _⟩, ⟨nb_ BK628.out⟩, ⟨ne_ HB.out⟩⟩
    case round =>
     clear H'
     try clear c1
     try clear c11
     obtain ⟨x17_2, rfl, HA, HK2, BK628, HB⟩ := hrel
     cases gk with
     | zero => exact absurd HA.out (by simp [impl_WalkOk.l0])
     | succ k2 =>
      have H := HA.out
      clear HA
      simp only [impl_WalkOk.l0] at H
      by_cases c12 : x17_2 < (l1.length : Int)
      rotate_left
      ·rw [if_neg c12] at H
       have c12b0 : decide (x17_2 < (l1.length : Int)) = false := decide_eq_false c12
       clear c12
       obtain rfl := Option.some.inj H
       go_wp2
       go_ret
       exact ⟨nw_, ne_ HB.out⟩

      rw [if_pos c12] at H
      have c12b0 : decide (x17_2 < (l1.length : Int)) = true := decide_eq_true c12
      clear c12
      by_cases c13 : 0 ≤ x17_2
      rotate_left
      ·rw [if_neg c13] at H
       exact absurd H (by simp)
      rw [if_pos c13] at H
      have c13b0 : decide (0 ≤ x17_2) = true := decide_eq_true c13
      clear c13
      by_cases c14 : x17_2 < (l1.length : Int)
      rotate_left
      ·rw [if_neg c14] at H
       exact absurd H (by simp)
      rw [if_pos c14] at H
      have c14b0 : decide (x17_2 < (l1.length : Int)) = true := decide_eq_true c14
      clear c14
      replace H := Option.bind_eq_some_iff.mp H
      obtain ⟨t631, A150, H⟩ := H
      try dsimp only at H
      have A15 := Aside0.mk A150
      clear A150
      by_cases c16 : t631 = true
      rotate_left
      ·replace c16 := Bool.eq_false_iff.mpr c16
       subst c16
       have H1 : (some false) = some r := by rw [if_neg (show ¬ (false = true) by decide)] at H; exact H
       clear H
       have H := H1
       clear H1
       obtain rfl := Option.some.inj H
       have p630 : 0 ≤ (x17_2 : Int) := of_decide_eq_true nx_
       have q630 : x17_2 < (l1.length : Int) := of_decide_eq_true nx_
       obtain ⟨ad630, e630, hx630_0⟩ := Kd.at_int HR1.out x17_2 p630 q630
       cases e630
       replace hx630_0 := hb_ HB.out hx630_0
       replace p630 := eq_true p630
       replace q630 := eq_true q630
       try go_wp2
       replace BK628 := Aside0.mk (blk_drew BK628.out)
       replace HB := Aside0.mk (below_drew1 HB.out)
       refine start_ (n := 30) (S := fun w' => w'.cell? ⟨gb628, 0, none⟩ = some (.int .i64 a0_0) ∧ w'.cell? ⟨gb628, 1, none⟩ = some (.slice A0_1 l0_1.length c0_1)) (ds := []) z43_0 (by kernel_rfl) rfl rfl ⟨ct_ BK628.out 0, ct_ BK628.out 1⟩ (fun hHeld => ?_); refine with_tabW impl_WalkOk.tab6 impl_WalkOk.bits6 (fun HT_ HW_ => ?_)
       generalize wr.drew = w29 at BK628 HB hHeld ⊢
       refine pu_ 0 22 z43_1 HT_.out ?_
       refine pu_ 1 23 z43_2 HT_.out ?_
       refine tk_ 2 24 z43_3 HT_.out HW_.out hHeld ?_
       refine pu_ 3 25 z43_4 HT_.out ?_
       refine pu_ 4 26 z43_5 HT_.out ?_
       refine one_ (i := 5) (N := some 27) z43_6 rfl rfl (one_of HT_.out (by kernel_rfl)) (by decide) (fun K hK => ?_)
       refine go_ Try.func62 #[.int .i64 (rd l1 x17_2), .int .i64 0, .int .i64 (wrap64 ((l0_1.length : Int) - 1))] ?_
       with_reducible refine (impl_within.calls (rd l1 x17_2) 0 (wrap64 ((l0_1.length : Int) - 1)) false _ A15.out).mono ?_
       rintro e w' ⟨rfl, ⟨nd, rfl⟩⟩
       refine ⟨_, rfl, ?_⟩
       refine hK.out _ _ ⟨ct_ BK628.out 0, ct_ BK628.out 1⟩ (fun hHeld => ?_)
       clear hK K
       refine nm1_ (some 27) ?_
       refine pu_ 6 28 z43_7 HT_.out ?_
       refine pu_ 7 29 z43_8 HT_.out ?_
       refine un_ 8 30 z43_9 HT_.out ?_
       refine un_ 9 31 z43_10 HT_.out ?_
       refine un_ 10 32 z43_11 HT_.out ?_
       refine un_ 11 33 z43_12 HT_.out ?_
       refine un_ 12 34 z43_31 HT_.out ?_
       refine un_ 13 35 z43_32 HT_.out ?_
       refine un_ 14 36 z43_33 HT_.out ?_
       refine un_ 15 37 z43_34 HT_.out ?_
       refine un_ 16 38 z43_35 HT_.out ?_
       refine un_ 17 39 z43_36 HT_.out ?_
       refine un_ 18 40 z43_37 HT_.out ?_
       refine un_ 19 41 z43_38 HT_.out ?_
       refine un_ 20 42 z43_39 HT_.out ?_
       refine un_ 21 43 z43_40 HT_.out ?_
       refine un_ 22 44 z43_41 HT_.out ?_
       refine un_ 23 45 z43_24 HT_.out ?_
       refine un_ 24 46 z43_25 HT_.out ?_
       refine un_ 25 47 z43_26 HT_.out ?_
       refine un_ 26 48 z43_27 HT_.out ?_
       refine un_ 27 49 z43_28 HT_.out ?_
       refine un_ 28 50 z43_29 HT_.out ?_
       refine pu_ 29 51 z43_30 HT_.out ?_
       refine done_ (done_of HT_.out (by kernel_rfl)) ?_
       try go_wp2
       go_ret
       exact ⟨nw_, ne_ HB.out⟩
      subst c16
      rw [if_pos rfl] at H
      by_cases c17 : x17_2 > 0
      rotate_left
      ·rw [if_neg c17] at H
       have c17b0 : decide (0 < x17_2) = false := decide_eq_false c17
       clear c17
       have H' := Aside0.mk H
       clear H
       have p630 : 0 ≤ (x17_2 : Int) := of_decide_eq_true nx_
       have q630 : x17_2 < (l1.length : Int) := of_decide_eq_true nx_
       obtain ⟨ad630, e630, hx630_0⟩ := Kd.at_int HR1.out x17_2 p630 q630
       cases e630
       replace hx630_0 := hb_ HB.out hx630_0
       replace p630 := eq_true p630
       replace q630 := eq_true q630
       try go_wp2
       replace BK628 := Aside0.mk (blk_drew BK628.out)
       replace HB := Aside0.mk (below_drew1 HB.out)
       refine start_ (n := 30) (S := fun w' => w'.cell? ⟨gb628, 0, none⟩ = some (.int .i64 a0_0) ∧ w'.cell? ⟨gb628, 1, none⟩ = some (.slice A0_1 l0_1.length c0_1)) (ds := []) z43_0 (by kernel_rfl) rfl rfl ⟨ct_ BK628.out 0, ct_ BK628.out 1⟩ (fun hHeld => ?_); refine with_tabW impl_WalkOk.tab6 impl_WalkOk.bits6 (fun HT_ HW_ => ?_)
       generalize wr.drew = w28 at BK628 HB hHeld ⊢
       refine pu_ 0 22 z43_1 HT_.out ?_
       refine pu_ 1 23 z43_2 HT_.out ?_
       refine tk_ 2 24 z43_3 HT_.out HW_.out hHeld ?_
       refine pu_ 3 25 z43_4 HT_.out ?_
       refine pu_ 4 26 z43_5 HT_.out ?_
       refine one_ (i := 5) (N := some 27) z43_6 rfl rfl (one_of HT_.out (by kernel_rfl)) (by decide) (fun K hK => ?_)
       refine go_ Try.func62 #[.int .i64 (rd l1 x17_2), .int .i64 0, .int .i64 (wrap64 ((l0_1.length : Int) - 1))] ?_
       with_reducible refine (impl_within.calls (rd l1 x17_2) 0 (wrap64 ((l0_1.length : Int) - 1)) true _ A15.out).mono ?_
       rintro e w' ⟨rfl, ⟨nd, rfl⟩⟩
       refine ⟨_, rfl, ?_⟩
       refine hK.out _ _ ⟨ct_ BK628.out 0, ct_ BK628.out 1⟩ (fun hHeld => ?_)
       clear hK K
       refine nm1_ (some 27) ?_
       refine pu_ 6 28 z43_7 HT_.out ?_
       refine pu_ 7 29 z43_8 HT_.out ?_
       refine pu_ 8 30 z43_9 HT_.out ?_
       refine pu_ 9 31 z43_10 HT_.out ?_
       refine pu_ 10 32 z43_11 HT_.out ?_
       refine un_ 11 33 z43_12 HT_.out ?_
       refine un_ 12 34 z43_31 HT_.out ?_
       refine un_ 13 35 z43_32 HT_.out ?_
       refine un_ 14 36 z43_33 HT_.out ?_
       refine un_ 15 37 z43_34 HT_.out ?_
       refine un_ 16 38 z43_35 HT_.out ?_
       refine un_ 17 39 z43_36 HT_.out ?_
       refine un_ 18 40 z43_37 HT_.out ?_
       refine un_ 19 41 z43_38 HT_.out ?_
       refine un_ 20 42 z43_39 HT_.out ?_
       refine un_ 21 43 z43_40 HT_.out ?_
       refine un_ 22 44 z43_41 HT_.out ?_
       refine un_ 23 45 z43_24 HT_.out ?_
       refine un_ 24 46 z43_25 HT_.out ?_
       refine un_ 25 47 z43_26 HT_.out ?_
       refine un_ 26 48 z43_27 HT_.out ?_
       refine un_ 27 49 z43_28 HT_.out ?_
       refine pu_ 28 50 z43_29 HT_.out ?_
       refine pu_ 29 51 z43_30 HT_.out ?_
       refine done_ (done_of HT_.out (by kernel_rfl)) ?_
       try go_wp2
       go_roundg k2
       case measure => have := HJ2.out; have := HK2.out; omega
       case rel => exact ⟨(wrap64 (x17_2 + 1)), ns_, H', ⟨by have := HJ2.out; have := HK2.out; omega⟩, ⟨nb_ BK628.out⟩, ⟨ne_ HB.out⟩⟩
      rw [if_pos c17] at H
      have c17b0 : decide (0 < x17_2) = true := decide_eq_true c17
      clear c17
      obtain ⟨ji18, hji18⟩ : ∃ j_ : Int, (wrap64 (x17_2 - 1)) = j_ := ⟨_, rfl⟩
      replace H : (if 0 ≤ (ji18) then (if (ji18) < (l1.length : Int) then (if 0 ≤ (rd l1 (ji18)) then (if (rd l1 (ji18)) < (l0_1.length : Int) then (if 0 ≤ (rd l1 x17_2) then (if (rd l1 x17_2) < (l0_1.length : Int) then (if ((rd_T37 l0_1 (rd l1 (ji18))).f1) = ((rd_T37 l0_1 (rd l1 x17_2)).f0) then (impl_WalkOk.l0 k2 l1 l1 (l1.length : Int) (wrap64 (x17_2 + 1)) a0_0 l0_1) else (some false)) else (none)) else (none)) else (none)) else (none)) else (none)) else (none)) = some r := by first | (rw [hji18] at H; exact H) | (simp only [hji18] at H ⊢; exact H)
      (try rw [hji18] at A15)
      have hji18w : (IntKind.i64.wrap (x17_2 - 1)) = ji18 := (i64_w _).trans hji18
      by_cases c19 : 0 ≤ (ji18)
      rotate_left
      ·rw [if_neg c19] at H
       exact absurd H (by simp)
      rw [if_pos c19] at H
      have c19b0 : decide (0 ≤ (ji18)) = true := decide_eq_true c19
      clear c19
      by_cases c20 : (ji18) < (l1.length : Int)
      rotate_left
      ·rw [if_neg c20] at H
       exact absurd H (by simp)
      rw [if_pos c20] at H
      have c20b0 : decide ((ji18) < (l1.length : Int)) = true := decide_eq_true c20
      clear c20
      by_cases c21 : 0 ≤ (rd l1 (ji18))
      rotate_left
      ·rw [if_neg c21] at H
       exact absurd H (by simp)
      rw [if_pos c21] at H
      have c21b0 : decide (0 ≤ (rd l1 (ji18))) = true := decide_eq_true c21
      clear c21
      by_cases c22 : (rd l1 (ji18)) < (l0_1.length : Int)
      rotate_left
      ·rw [if_neg c22] at H
       exact absurd H (by simp)
      rw [if_pos c22] at H
      have c22b0 : decide ((rd l1 (ji18)) < (l0_1.length : Int)) = true := decide_eq_true c22
      clear c22
      by_cases c23 : 0 ≤ (rd l1 x17_2)
      rotate_left
      ·rw [if_neg c23] at H
       exact absurd H (by simp)
      rw [if_pos c23] at H
      have c23b0 : decide (0 ≤ (rd l1 x17_2)) = true := decide_eq_true c23
      clear c23
      by_cases c24 : (rd l1 x17_2) < (l0_1.length : Int)
      rotate_left
      ·rw [if_neg c24] at H
       exact absurd H (by simp)
      rw [if_pos c24] at H
      have c24b0 : decide ((rd l1 x17_2) < (l0_1.length : Int)) = true := decide_eq_true c24
      clear c24
      by_cases c25 : ((rd_T37 l0_1 (rd l1 (ji18))).f1) = ((rd_T37 l0_1 (rd l1 x17_2)).f0)
      rotate_left
      ·rw [if_neg c25] at H
       have c25b0 : (((rd_T37 l0_1 (rd l1 (ji18))).f1) == ((rd_T37 l0_1 (rd l1 x17_2)).f0)) = false := beq_eq_false_iff_ne.mpr c25
       have c25b1 : (((rd_T37 l0_1 (rd l1 (ji18))).f1) != ((rd_T37 l0_1 (rd l1 x17_2)).f0)) = true := bne_iff_ne.mpr c25
       obtain rfl := Option.some.inj H
       have p630 : 0 ≤ (x17_2 : Int) := of_decide_eq_true nx_
       have q630 : x17_2 < (l1.length : Int) := of_decide_eq_true nx_
       obtain ⟨ad630, e630, hx630_0⟩ := Kd.at_int HR1.out x17_2 p630 q630
       cases e630
       replace hx630_0 := hb_ HB.out hx630_0
       replace p630 := eq_true p630
       replace q630 := eq_true q630
       try go_wp2
       replace BK628 := Aside0.mk (blk_drew BK628.out)
       replace HB := Aside0.mk (below_drew1 HB.out)
       have p632 : 0 ≤ ((ji18) : Int) := of_decide_eq_true nx_
       have q632 : (ji18) < (l1.length : Int) := of_decide_eq_true nx_
       obtain ⟨ad632, e632, hx632_0⟩ := Kd.at_int HR1.out (ji18) p632 q632
       have hw632_0 := hx632_0
       obtain rfl : ad630 = ad632 := (by injection e632)
       replace hx632_0 := hb_ HB.out hx632_0
       replace p632 := eq_true p632
       replace q632 := eq_true q632
       have p633 : 0 ≤ ((rd l1 (ji18)) : Int) := of_decide_eq_true nx_
       have q633 : (rd l1 (ji18)) < (l0_1.length : Int) := of_decide_eq_true nx_
       obtain ⟨ad633, e633, hx633_0, hx633_1, hx633_2, hx633_3, hx633_4⟩ := at_T37 HR0_1.out (rd l1 (ji18)) p633 q633
       have hw633_4 := hx633_4
       have hw633_3 := hx633_3
       have hw633_2 := hx633_2
       have hw633_1 := hx633_1
       have hw633_0 := hx633_0
       cases e633
       replace hx633_0 := hb_ HB.out hx633_0
       replace hx633_1 := hb_ HB.out hx633_1
       replace hx633_2 := hb_ HB.out hx633_2
       replace hx633_3 := hb_ HB.out hx633_3
       replace hx633_4 := hb_ HB.out hx633_4
       replace p633 := eq_true p633
       replace q633 := eq_true q633
       have p634 : 0 ≤ ((rd l1 x17_2) : Int) := of_decide_eq_true nx_
       have q634 : (rd l1 x17_2) < (l0_1.length : Int) := of_decide_eq_true nx_
       obtain ⟨ad634, e634, hx634_0, hx634_1, hx634_2, hx634_3, hx634_4⟩ := at_T37 HR0_1.out (rd l1 x17_2) p634 q634
       have hw634_4 := hx634_4
       have hw634_3 := hx634_3
       have hw634_2 := hx634_2
       have hw634_1 := hx634_1
       have hw634_0 := hx634_0
       obtain rfl : ad633 = ad634 := (by injection e634)
       replace hx634_0 := hb_ HB.out hx634_0
       replace hx634_1 := hb_ HB.out hx634_1
       replace hx634_2 := hb_ HB.out hx634_2
       replace hx634_3 := hb_ HB.out hx634_3
       replace hx634_4 := hb_ HB.out hx634_4
       replace p634 := eq_true p634
       replace q634 := eq_true q634
       refine start_ (n := 30) (S := fun w' => w'.cell? ⟨gb628, 0, none⟩ = some (.int .i64 a0_0) ∧ w'.cell? ⟨gb628, 1, none⟩ = some (.slice (some ad633) l0_1.length c0_1) ∧ w'.cell? (ad630.add ((ji18)).toNat) = some (.int .i64 (rd l1 (ji18))) ∧ w'.cell? (ad633.add (((rd l1 (ji18))).toNat * 5)) = some (.int .i64 ((rd_T37 l0_1 (rd l1 (ji18))).f0)) ∧ w'.cell? ⟨(ad633.add (((rd l1 (ji18))).toNat * 5)).block, (ad633.add (((rd l1 (ji18))).toNat * 5)).off + 1, none⟩ = some (.int .i64 ((rd_T37 l0_1 (rd l1 (ji18))).f1)) ∧ w'.cell? ⟨(ad633.add (((rd l1 (ji18))).toNat * 5)).block, (ad633.add (((rd l1 (ji18))).toNat * 5)).off + 2, none⟩ = some (.int .i64 ((rd_T37 l0_1 (rd l1 (ji18))).f2)) ∧ w'.cell? ⟨(ad633.add (((rd l1 (ji18))).toNat * 5)).block, (ad633.add (((rd l1 (ji18))).toNat * 5)).off + 3, none⟩ = some (.int .i64 ((rd_T37 l0_1 (rd l1 (ji18))).f3)) ∧ w'.cell? ⟨(ad633.add (((rd l1 (ji18))).toNat * 5)).block, (ad633.add (((rd l1 (ji18))).toNat * 5)).off + 4, none⟩ = some (.int .i64 ((rd_T37 l0_1 (rd l1 (ji18))).f4)) ∧ w'.cell? (ad633.add (((rd l1 x17_2)).toNat * 5)) = some (.int .i64 ((rd_T37 l0_1 (rd l1 x17_2)).f0)) ∧ w'.cell? ⟨(ad633.add (((rd l1 x17_2)).toNat * 5)).block, (ad633.add (((rd l1 x17_2)).toNat * 5)).off + 1, none⟩ = some (.int .i64 ((rd_T37 l0_1 (rd l1 x17_2)).f1)) ∧ w'.cell? ⟨(ad633.add (((rd l1 x17_2)).toNat * 5)).block, (ad633.add (((rd l1 x17_2)).toNat * 5)).off + 2, none⟩ = some (.int .i64 ((rd_T37 l0_1 (rd l1 x17_2)).f2)) ∧ w'.cell? ⟨(ad633.add (((rd l1 x17_2)).toNat * 5)).block, (ad633.add (((rd l1 x17_2)).toNat * 5)).off + 3, none⟩ = some (.int .i64 ((rd_T37 l0_1 (rd l1 x17_2)).f3)) ∧ w'.cell? ⟨(ad633.add (((rd l1 x17_2)).toNat * 5)).block, (ad633.add (((rd l1 x17_2)).toNat * 5)).off + 4, none⟩ = some (.int .i64 ((rd_T37 l0_1 (rd l1 x17_2)).f4))) (ds := []) z43_0 (by kernel_rfl) rfl rfl ⟨ct_ BK628.out 0, ct_ BK628.out 1, ((HB.out.cell (World.block_lt_of_cell? w _ hw632_0)).trans hw632_0), ((HB.out.cell (World.block_lt_of_cell? w _ hw633_0)).trans hw633_0), ((HB.out.cell (World.block_lt_of_cell? w _ hw633_1)).trans hw633_1), ((HB.out.cell (World.block_lt_of_cell? w _ hw633_2)).trans hw633_2), ((HB.out.cell (World.block_lt_of_cell? w _ hw633_3)).trans hw633_3), ((HB.out.cell (World.block_lt_of_cell? w _ hw633_4)).trans hw633_4), ((HB.out.cell (World.block_lt_of_cell? w _ hw634_0)).trans hw634_0), ((HB.out.cell (World.block_lt_of_cell? w _ hw634_1)).trans hw634_1), ((HB.out.cell (World.block_lt_of_cell? w _ hw634_2)).trans hw634_2), ((HB.out.cell (World.block_lt_of_cell? w _ hw634_3)).trans hw634_3), ((HB.out.cell (World.block_lt_of_cell? w _ hw634_4)).trans hw634_4)⟩ (fun hHeld => ?_); refine with_tabW impl_WalkOk.tab6 impl_WalkOk.bits6 (fun HT_ HW_ => ?_)
       generalize wr.drew = w27 at BK628 HB hx632_0 hx633_0 hx633_1 hx633_2 hx633_3 hx633_4 hx634_0 hx634_1 hx634_2 hx634_3 hx634_4 hHeld ⊢
       refine pu_ 0 22 z43_1 HT_.out ?_
       refine pu_ 1 23 z43_2 HT_.out ?_
       refine tk_ 2 24 z43_3 HT_.out HW_.out hHeld ?_
       refine pu_ 3 25 z43_4 HT_.out ?_
       refine pu_ 4 26 z43_5 HT_.out ?_
       refine one_ (i := 5) (N := some 27) z43_6 rfl rfl (one_of HT_.out (by kernel_rfl)) (by decide) (fun K hK => ?_)
       refine go_ Try.func62 #[.int .i64 (rd l1 x17_2), .int .i64 0, .int .i64 (wrap64 ((l0_1.length : Int) - 1))] ?_
       with_reducible refine (impl_within.calls (rd l1 x17_2) 0 (wrap64 ((l0_1.length : Int) - 1)) true _ A15.out).mono ?_
       rintro e w' ⟨rfl, ⟨nd, rfl⟩⟩
       refine ⟨_, rfl, ?_⟩
       refine hK.out _ _ ⟨ct_ BK628.out 0, ct_ BK628.out 1, ((HB.out.cell (World.block_lt_of_cell? w _ hw632_0)).trans hw632_0), ((HB.out.cell (World.block_lt_of_cell? w _ hw633_0)).trans hw633_0), ((HB.out.cell (World.block_lt_of_cell? w _ hw633_1)).trans hw633_1), ((HB.out.cell (World.block_lt_of_cell? w _ hw633_2)).trans hw633_2), ((HB.out.cell (World.block_lt_of_cell? w _ hw633_3)).trans hw633_3), ((HB.out.cell (World.block_lt_of_cell? w _ hw633_4)).trans hw633_4), ((HB.out.cell (World.block_lt_of_cell? w _ hw634_0)).trans hw634_0), ((HB.out.cell (World.block_lt_of_cell? w _ hw634_1)).trans hw634_1), ((HB.out.cell (World.block_lt_of_cell? w _ hw634_2)).trans hw634_2), ((HB.out.cell (World.block_lt_of_cell? w _ hw634_3)).trans hw634_3), ((HB.out.cell (World.block_lt_of_cell? w _ hw634_4)).trans hw634_4)⟩ (fun hHeld => ?_)
       clear hK K
       refine nm1_ (some 27) ?_
       refine pu_ 6 28 z43_7 HT_.out ?_
       refine pu_ 7 29 z43_8 HT_.out ?_
       refine pu_ 8 30 z43_9 HT_.out ?_
       refine pu_ 9 31 z43_10 HT_.out ?_
       refine pu_ 10 32 z43_11 HT_.out ?_
       refine pu_ 11 33 z43_12 HT_.out ?_
       refine pu_ 13 35 z43_13 HT_.out ?_
       refine pu_ 14 36 z43_14 HT_.out ?_
       refine pu_ 15 37 z43_15 HT_.out ?_
       refine pu_ 16 38 z43_16 HT_.out ?_
       refine pu_ 21 43 z43_17 HT_.out ?_
       refine pu_ 23 45 z43_18 HT_.out ?_
       refine tk_ 12 34 z43_19 HT_.out HW_.out hHeld ?_
       refine tk_ 17 39 z43_20 HT_.out HW_.out hHeld ?_
       refine pu_ 18 40 z43_21 HT_.out ?_
       refine pu_ 19 41 z43_22 HT_.out ?_
       refine tk_ 20 42 z43_23 HT_.out HW_.out hHeld ?_
       refine tk_ 22 44 z43_24 HT_.out HW_.out hHeld ?_
       refine pu_ 24 46 z43_25 HT_.out ?_
       refine pu_ 25 47 z43_26 HT_.out ?_
       refine tk_ 26 48 z43_27 HT_.out HW_.out hHeld ?_
       refine pu_ 27 49 z43_28 HT_.out ?_
       refine pu_ 28 50 z43_29 HT_.out ?_
       refine pu_ 29 51 z43_30 HT_.out ?_
       refine done_ (done_of HT_.out (by kernel_rfl)) ?_
       try go_wp2
       go_ret
       exact ⟨by first | rfl | (simp [errW_none, errW_some] <;> rfl) | (simp only [← hji18]; first | rfl | (simp [errW_none, errW_some] <;> rfl)) | (simp [*, errW_none, errW_some] <;> rfl), ne_ HB.out⟩
      rw [if_pos c25] at H
      have c25b0 : (((rd_T37 l0_1 (rd l1 (ji18))).f1) == ((rd_T37 l0_1 (rd l1 x17_2)).f0)) = true := beq_iff_eq.mpr c25
      have c25b1 : (((rd_T37 l0_1 (rd l1 (ji18))).f1) != ((rd_T37 l0_1 (rd l1 x17_2)).f0)) = false := bne_eq_false_iff_eq.mpr c25
      clear c25
      have H' := Aside0.mk H
      clear H
      have p630 : 0 ≤ (x17_2 : Int) := of_decide_eq_true nx_
      have q630 : x17_2 < (l1.length : Int) := of_decide_eq_true nx_
      obtain ⟨ad630, e630, hx630_0⟩ := Kd.at_int HR1.out x17_2 p630 q630
      cases e630
      replace hx630_0 := hb_ HB.out hx630_0
      replace p630 := eq_true p630
      replace q630 := eq_true q630
      try go_wp2
      replace BK628 := Aside0.mk (blk_drew BK628.out)
      replace HB := Aside0.mk (below_drew1 HB.out)
      have p632 : 0 ≤ ((ji18) : Int) := of_decide_eq_true nx_
      have q632 : (ji18) < (l1.length : Int) := of_decide_eq_true nx_
      obtain ⟨ad632, e632, hx632_0⟩ := Kd.at_int HR1.out (ji18) p632 q632
      have hw632_0 := hx632_0
      obtain rfl : ad630 = ad632 := (by injection e632)
      replace hx632_0 := hb_ HB.out hx632_0
      replace p632 := eq_true p632
      replace q632 := eq_true q632
      have p633 : 0 ≤ ((rd l1 (ji18)) : Int) := of_decide_eq_true nx_
      have q633 : (rd l1 (ji18)) < (l0_1.length : Int) := of_decide_eq_true nx_
      obtain ⟨ad633, e633, hx633_0, hx633_1, hx633_2, hx633_3, hx633_4⟩ := at_T37 HR0_1.out (rd l1 (ji18)) p633 q633
      have hw633_4 := hx633_4
      have hw633_3 := hx633_3
      have hw633_2 := hx633_2
      have hw633_1 := hx633_1
      have hw633_0 := hx633_0
      cases e633
      replace hx633_0 := hb_ HB.out hx633_0
      replace hx633_1 := hb_ HB.out hx633_1
      replace hx633_2 := hb_ HB.out hx633_2
      replace hx633_3 := hb_ HB.out hx633_3
      replace hx633_4 := hb_ HB.out hx633_4
      replace p633 := eq_true p633
      replace q633 := eq_true q633
      have p634 : 0 ≤ ((rd l1 x17_2) : Int) := of_decide_eq_true nx_
      have q634 : (rd l1 x17_2) < (l0_1.length : Int) := of_decide_eq_true nx_
      obtain ⟨ad634, e634, hx634_0, hx634_1, hx634_2, hx634_3, hx634_4⟩ := at_T37 HR0_1.out (rd l1 x17_2) p634 q634
      have hw634_4 := hx634_4
      have hw634_3 := hx634_3
      have hw634_2 := hx634_2
      have hw634_1 := hx634_1
      have hw634_0 := hx634_0
      obtain rfl : ad633 = ad634 := (by injection e634)
      replace hx634_0 := hb_ HB.out hx634_0
      replace hx634_1 := hb_ HB.out hx634_1
      replace hx634_2 := hb_ HB.out hx634_2
      replace hx634_3 := hb_ HB.out hx634_3
      replace hx634_4 := hb_ HB.out hx634_4
      replace p634 := eq_true p634
      replace q634 := eq_true q634
      refine start_ (n := 30) (S := fun w' => w'.cell? ⟨gb628, 0, none⟩ = some (.int .i64 a0_0) ∧ w'.cell? ⟨gb628, 1, none⟩ = some (.slice (some ad633) l0_1.length c0_1) ∧ w'.cell? (ad630.add ((ji18)).toNat) = some (.int .i64 (rd l1 (ji18))) ∧ w'.cell? (ad633.add (((rd l1 (ji18))).toNat * 5)) = some (.int .i64 ((rd_T37 l0_1 (rd l1 (ji18))).f0)) ∧ w'.cell? ⟨(ad633.add (((rd l1 (ji18))).toNat * 5)).block, (ad633.add (((rd l1 (ji18))).toNat * 5)).off + 1, none⟩ = some (.int .i64 ((rd_T37 l0_1 (rd l1 (ji18))).f1)) ∧ w'.cell? ⟨(ad633.add (((rd l1 (ji18))).toNat * 5)).block, (ad633.add (((rd l1 (ji18))).toNat * 5)).off + 2, none⟩ = some (.int .i64 ((rd_T37 l0_1 (rd l1 (ji18))).f2)) ∧ w'.cell? ⟨(ad633.add (((rd l1 (ji18))).toNat * 5)).block, (ad633.add (((rd l1 (ji18))).toNat * 5)).off + 3, none⟩ = some (.int .i64 ((rd_T37 l0_1 (rd l1 (ji18))).f3)) ∧ w'.cell? ⟨(ad633.add (((rd l1 (ji18))).toNat * 5)).block, (ad633.add (((rd l1 (ji18))).toNat * 5)).off + 4, none⟩ = some (.int .i64 ((rd_T37 l0_1 (rd l1 (ji18))).f4)) ∧ w'.cell? (ad633.add (((rd l1 x17_2)).toNat * 5)) = some (.int .i64 ((rd_T37 l0_1 (rd l1 x17_2)).f0)) ∧ w'.cell? ⟨(ad633.add (((rd l1 x17_2)).toNat * 5)).block, (ad633.add (((rd l1 x17_2)).toNat * 5)).off + 1, none⟩ = some (.int .i64 ((rd_T37 l0_1 (rd l1 x17_2)).f1)) ∧ w'.cell? ⟨(ad633.add (((rd l1 x17_2)).toNat * 5)).block, (ad633.add (((rd l1 x17_2)).toNat * 5)).off + 2, none⟩ = some (.int .i64 ((rd_T37 l0_1 (rd l1 x17_2)).f2)) ∧ w'.cell? ⟨(ad633.add (((rd l1 x17_2)).toNat * 5)).block, (ad633.add (((rd l1 x17_2)).toNat * 5)).off + 3, none⟩ = some (.int .i64 ((rd_T37 l0_1 (rd l1 x17_2)).f3)) ∧ w'.cell? ⟨(ad633.add (((rd l1 x17_2)).toNat * 5)).block, (ad633.add (((rd l1 x17_2)).toNat * 5)).off + 4, none⟩ = some (.int .i64 ((rd_T37 l0_1 (rd l1 x17_2)).f4))) (ds := []) z43_0 (by kernel_rfl) rfl rfl ⟨ct_ BK628.out 0, ct_ BK628.out 1, ((HB.out.cell (World.block_lt_of_cell? w _ hw632_0)).trans hw632_0), ((HB.out.cell (World.block_lt_of_cell? w _ hw633_0)).trans hw633_0), ((HB.out.cell (World.block_lt_of_cell? w _ hw633_1)).trans hw633_1), ((HB.out.cell (World.block_lt_of_cell? w _ hw633_2)).trans hw633_2), ((HB.out.cell (World.block_lt_of_cell? w _ hw633_3)).trans hw633_3), ((HB.out.cell (World.block_lt_of_cell? w _ hw633_4)).trans hw633_4), ((HB.out.cell (World.block_lt_of_cell? w _ hw634_0)).trans hw634_0), ((HB.out.cell (World.block_lt_of_cell? w _ hw634_1)).trans hw634_1), ((HB.out.cell (World.block_lt_of_cell? w _ hw634_2)).trans hw634_2), ((HB.out.cell (World.block_lt_of_cell? w _ hw634_3)).trans hw634_3), ((HB.out.cell (World.block_lt_of_cell? w _ hw634_4)).trans hw634_4)⟩ (fun hHeld => ?_); refine with_tabW impl_WalkOk.tab6 impl_WalkOk.bits6 (fun HT_ HW_ => ?_)
      generalize wr.drew = w26 at BK628 HB hx632_0 hx633_0 hx633_1 hx633_2 hx633_3 hx633_4 hx634_0 hx634_1 hx634_2 hx634_3 hx634_4 hHeld ⊢
      refine pu_ 0 22 z43_1 HT_.out ?_
      refine pu_ 1 23 z43_2 HT_.out ?_
      refine tk_ 2 24 z43_3 HT_.out HW_.out hHeld ?_
      refine pu_ 3 25 z43_4 HT_.out ?_
      refine pu_ 4 26 z43_5 HT_.out ?_
      refine one_ (i := 5) (N := some 27) z43_6 rfl rfl (one_of HT_.out (by kernel_rfl)) (by decide) (fun K hK => ?_)
      refine go_ Try.func62 #[.int .i64 (rd l1 x17_2), .int .i64 0, .int .i64 (wrap64 ((l0_1.length : Int) - 1))] ?_
      with_reducible refine (impl_within.calls (rd l1 x17_2) 0 (wrap64 ((l0_1.length : Int) - 1)) true _ A15.out).mono ?_
      rintro e w' ⟨rfl, ⟨nd, rfl⟩⟩
      refine ⟨_, rfl, ?_⟩
      refine hK.out _ _ ⟨ct_ BK628.out 0, ct_ BK628.out 1, ((HB.out.cell (World.block_lt_of_cell? w _ hw632_0)).trans hw632_0), ((HB.out.cell (World.block_lt_of_cell? w _ hw633_0)).trans hw633_0), ((HB.out.cell (World.block_lt_of_cell? w _ hw633_1)).trans hw633_1), ((HB.out.cell (World.block_lt_of_cell? w _ hw633_2)).trans hw633_2), ((HB.out.cell (World.block_lt_of_cell? w _ hw633_3)).trans hw633_3), ((HB.out.cell (World.block_lt_of_cell? w _ hw633_4)).trans hw633_4), ((HB.out.cell (World.block_lt_of_cell? w _ hw634_0)).trans hw634_0), ((HB.out.cell (World.block_lt_of_cell? w _ hw634_1)).trans hw634_1), ((HB.out.cell (World.block_lt_of_cell? w _ hw634_2)).trans hw634_2), ((HB.out.cell (World.block_lt_of_cell? w _ hw634_3)).trans hw634_3), ((HB.out.cell (World.block_lt_of_cell? w _ hw634_4)).trans hw634_4)⟩ (fun hHeld => ?_)
      clear hK K
      refine nm1_ (some 27) ?_
      refine pu_ 6 28 z43_7 HT_.out ?_
      refine pu_ 7 29 z43_8 HT_.out ?_
      refine pu_ 8 30 z43_9 HT_.out ?_
      refine pu_ 9 31 z43_10 HT_.out ?_
      refine pu_ 10 32 z43_11 HT_.out ?_
      refine pu_ 11 33 z43_12 HT_.out ?_
      refine pu_ 13 35 z43_13 HT_.out ?_
      refine pu_ 14 36 z43_14 HT_.out ?_
      refine pu_ 15 37 z43_15 HT_.out ?_
      refine pu_ 16 38 z43_16 HT_.out ?_
      refine pu_ 21 43 z43_17 HT_.out ?_
      refine pu_ 23 45 z43_18 HT_.out ?_
      refine tk_ 12 34 z43_19 HT_.out HW_.out hHeld ?_
      refine tk_ 17 39 z43_20 HT_.out HW_.out hHeld ?_
      refine pu_ 18 40 z43_21 HT_.out ?_
      refine pu_ 19 41 z43_22 HT_.out ?_
      refine tk_ 20 42 z43_23 HT_.out HW_.out hHeld ?_
      refine tk_ 22 44 z43_24 HT_.out HW_.out hHeld ?_
      refine pu_ 24 46 z43_25 HT_.out ?_
      refine pu_ 25 47 z43_26 HT_.out ?_
      refine tk_ 26 48 z43_27 HT_.out HW_.out hHeld ?_
      refine pu_ 27 49 z43_28 HT_.out ?_
      refine pu_ 28 50 z43_29 HT_.out ?_
      refine pu_ 29 51 z43_30 HT_.out ?_
      refine done_ (done_of HT_.out (by kernel_rfl)) ?_
      try go_wp2
      go_roundg k2
      case measure => have := HJ2.out; have := HK2.out; omega
      case rel => exact ⟨(wrap64 (x17_2 + 1)), ns_, H', ⟨by have := HJ2.out; have := HK2.out; omega⟩, ⟨nb_ BK628.out⟩, ⟨ne_ HB.out⟩⟩
end Go.Proofs.Ytpjmkghmjpbldaa.Print
