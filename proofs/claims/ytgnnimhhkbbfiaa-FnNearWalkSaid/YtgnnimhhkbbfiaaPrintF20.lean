-- Made by this session's own program (wip/patch_print.py, over the kit's print). Lean checks it.
import Derived.Test.YtgnnimhhkbbfiaaPrint0
import Derived.Test.YtgnnimhhkbbfiaaPrintB
import Derived.Test.YtgnnimhhkbbfiaaPrintF27
namespace Go.Proofs.Ytgnnimhhkbbfiaa.Print
open Go.RowKit Go.Proofs.YtgnnimhhkbbfiaaW.PrintWords Go.Proofs.YtgnnimhhkbbfiaaW.PrintLast Go.Proofs.YtgnnimhhkbbfiaaW.PrintMore Go.Proofs.YtgnnimhhkbbfiaaX
attribute [local go_sem] max2_int min2_int max_two min_two max_three min_three max_four min_four   -- for this text's walks alone
set_option linter.unusedVariables false
set_option linter.unusedSimpArgs false

abbrev z20_0 := bm_ 30 0
abbrev z20_1 := bm_ 30 1
abbrev z20_2 := bm_ 30 3
abbrev z20_3 := bm_ 30 7
abbrev z20_4 := bm_ 30 15
abbrev z20_5 := bm_ 30 31
abbrev z20_6 := bm_ 30 63
abbrev z20_7 := bm_ 30 127
abbrev z20_8 := bm_ 30 255
abbrev z20_9 := bm_ 30 511
abbrev z20_10 := bm_ 30 1023
abbrev z20_11 := bm_ 30 2047
abbrev z20_12 := bm_ 30 4095
abbrev z20_13 := bm_ 30 12287
abbrev z20_14 := bm_ 30 28671
abbrev z20_15 := bm_ 30 61439
abbrev z20_16 := bm_ 30 126975
abbrev z20_17 := bm_ 30 2224127
abbrev z20_18 := bm_ 30 10612735
abbrev z20_19 := bm_ 30 10616831
abbrev z20_20 := bm_ 30 10747903
abbrev z20_21 := bm_ 30 11010047
abbrev z20_22 := bm_ 30 11534335
abbrev z20_23 := bm_ 30 12582911
abbrev z20_24 := bm_ 30 16777215
abbrev z20_25 := bm_ 30 33554431
abbrev z20_26 := bm_ 30 67108863
abbrev z20_27 := bm_ 30 134217727
abbrev z20_28 := bm_ 30 268435455
abbrev z20_29 := bm_ 30 536870911
abbrev z20_30 := bm_ 30 1073741823
abbrev z20_31 := bm_ 30 8191
abbrev z20_32 := bm_ 30 16383
abbrev z20_33 := bm_ 30 32767
abbrev z20_34 := bm_ 30 65535
abbrev z20_35 := bm_ 30 131071
abbrev z20_36 := bm_ 30 262143
abbrev z20_37 := bm_ 30 524287
abbrev z20_38 := bm_ 30 1048575
abbrev z20_39 := bm_ 30 2097151
abbrev z20_40 := bm_ 30 4194303
abbrev z20_41 := bm_ 30 8388607
/-! ### impl_WalkOk: function 20 -/
mutual
def impl_WalkOk.j0 : Nat → List Int → Bool → Int → List (S47) → Option (Bool)
  | 0, _, _, _, _ => none
  | k + 1, x1, x14, x327000, x327001 => if x14 = true then (some false) else (impl_WalkOk.l0 k x1 x1 (x1.length : Int) 0 x327000 x327001)
def impl_WalkOk.l0 : Nat → List Int → List Int → Int → Int → Int → List (S47) → Option (Bool)
  | 0, _, _, _, _, _, _ => none
  | k + 1, x1, x15, x16, x17, x327000, x327001 => if x17 < x16 then (if 0 ≤ x17 then (if x17 < (x15.length : Int) then ((impl_within.f (rd x15 x17) 0 (wrap64 ((x327001.length : Int) - 1))).bind fun t329 => (if t329 = true then (if x17 > 0 then (if 0 ≤ (wrap64 (x17 - 1)) then (if (wrap64 (x17 - 1)) < (x1.length : Int) then (if 0 ≤ (rd x1 (wrap64 (x17 - 1))) then (if (rd x1 (wrap64 (x17 - 1))) < (x327001.length : Int) then (if 0 ≤ (rd x15 x17) then (if (rd x15 x17) < (x327001.length : Int) then (if ((rd_T47 x327001 (rd x1 (wrap64 (x17 - 1)))).f1) = ((rd_T47 x327001 (rd x15 x17)).f0) then (impl_WalkOk.l0 k x1 x15 x16 (wrap64 (x17 + 1)) x327000 x327001) else (some false)) else (none)) else (none)) else (none)) else (none)) else (none)) else (none)) else (impl_WalkOk.l0 k x1 x15 x16 (wrap64 (x17 + 1)) x327000 x327001)) else (some false))) else (none)) else (none)) else (some true)
end
def impl_WalkOk.f (k : Nat) (a0_0 : Int) (l0_1 : List (S47)) (l1 : List Int) : Option (Bool) := (impl_NetOk.f a0_0 l0_1).bind fun t327 => (if t327 = true then (impl_WalkOk.j0 k l1 (decide ((l1.length : Int) > 20)) a0_0 l0_1) else (impl_WalkOk.j0 k l1 true a0_0 l0_1))
theorem impl_WalkOk.mono_l : ∀ k, (∀ y0 y1 y2 y3, LeO (impl_WalkOk.j0 k y0 y1 y2 y3) (impl_WalkOk.j0 (k + 1) y0 y1 y2 y3)) ∧ (∀ y0 y1 y2 y3 y4 y5, LeO (impl_WalkOk.l0 k y0 y1 y2 y3 y4 y5) (impl_WalkOk.l0 (k + 1) y0 y1 y2 y3 y4 y5))
  | 0 => ⟨fun _ _ _ _ r h => by simp [impl_WalkOk.j0] at h, fun _ _ _ _ _ _ r h => by simp [impl_WalkOk.l0] at h⟩
  | k + 1 => by
    obtain ⟨ih0, ih1⟩ := impl_WalkOk.mono_l k
    refine ⟨?_, ?_⟩
    · intro y0 y1 y2 y3
      unfold impl_WalkOk.j0
      repeat' first | (with_reducible first | exact ih0 _ _ _ _ | exact ih1 _ _ _ _ _ _ | exact LeO.refl _ | exact LeO.none _ | refine LeO.ite ?_ ?_ | refine LeO.bind ?_ (fun _ => ?_)) | exact ih0 _ _ _ _ | exact ih1 _ _ _ _ _ _ | exact LeO.none _ | refine LeO.ite ?_ ?_ | refine LeO.bind ?_ (fun _ => ?_)
    · intro y0 y1 y2 y3 y4 y5
      unfold impl_WalkOk.l0
      repeat' first | (with_reducible first | exact ih0 _ _ _ _ | exact ih1 _ _ _ _ _ _ | exact LeO.refl _ | exact LeO.none _ | refine LeO.ite ?_ ?_ | refine LeO.bind ?_ (fun _ => ?_)) | exact ih0 _ _ _ _ | exact ih1 _ _ _ _ _ _ | exact LeO.none _ | refine LeO.ite ?_ ?_ | refine LeO.bind ?_ (fun _ => ?_)
theorem impl_WalkOk.mono : ∀ a0 a1 a2 k, LeO (impl_WalkOk.f k a0 a1 a2) (impl_WalkOk.f (k + 1) a0 a1 a2) := by
  intro a0 a1 a2 k
  obtain ⟨ih0, ih1⟩ := impl_WalkOk.mono_l k
  unfold impl_WalkOk.f
  repeat' first | (with_reducible first | exact ih0 _ _ _ _ | exact ih1 _ _ _ _ _ _ | exact LeO.refl _ | exact LeO.none _ | refine LeO.ite ?_ ?_ | refine LeO.bind ?_ (fun _ => ?_)) | exact ih0 _ _ _ _ | exact ih1 _ _ _ _ _ _ | exact LeO.none _ | refine LeO.ite ?_ ?_ | refine LeO.bind ?_ (fun _ => ?_)
def impl_WalkOk.T6 : Bool × List (List Nat × List Nat) := (true, [([], []), ([], []), ([1], [1]), ([2], [2]), ([3], [3]), ([0, 4], [0, 4]), ([5], [5]), ([6, 5], [6]), ([7], [7]), ([8, 7], [7, 8]), ([9, 7, 7], [7, 9]), ([10], [10]), ([11, 10], [10, 11]), ([10], [10]), ([10], [10]), ([14, 10], [10, 14]), ([13, 15, 10], [10, 13, 15]), ([16, 10], [10, 16]), ([12, 17, 10], [10, 12, 17]), ([18, 10], [10, 18]), ([19, 10], [10, 19]), ([10], [10]), ([21, 10], [10, 21]), ([10], [10]), ([22, 23, 10], [10, 22, 23]), ([24, 10], [10, 24]), ([25, 10], [10, 25]), ([20, 26, 10], [10, 20, 26]), ([10, 27, 7], [7, 10, 27]), ([7, 28], [7, 28])])
def impl_WalkOk.B6 : List Nat := [0, 0, 2, 6, 14, 31, 63, 127, 255, 511, 1023, 2047, 4095, 2047, 2047, 18431, 59391, 124927, 262143, 524287, 1048575, 2047, 2099199, 2047, 14682111, 31459327, 65013759, 134217727, 268435455, 536870911]
theorem impl_WalkOk.tab6 : rtab .any (opsOf Try.f20 6) = impl_WalkOk.T6 := by kernel_rfl
theorem impl_WalkOk.bits6 : waitsOk impl_WalkOk.T6.2 impl_WalkOk.B6 = true := by kernel_rfl
set_option maxHeartbeats 200000000 in
set_option maxRecDepth 100000 in
theorem impl_WalkOk.calls (k : Nat) (a0_0 : Int) (A0_1 : Option Addr) (c0_1 : Nat) (l0_1 : List (S47)) (A1 : Option Addr) (c1 : Nat) (l1 : List Int) (r : Bool) (w : World) (hr0_1 : Kd.C k47 w A0_1 l0_1.length l0_1) (hc0_1 : l0_1.length ≤ c0_1) (hr1 : Kd.C (Kd.int .i64) w A1 l1.length l1) (hc1 : l1.length ≤ c1) (h : impl_WalkOk.f k a0_0 l0_1 l1 = some r) :
    Calls Try.prog 20 #[.agg #[.int .i64 a0_0, .slice A0_1 l0_1.length c0_1], .slice A1 l1.length c1] w fun e w' => e = .returned (.bool r) ∧ Below w.heap.size w w' := by
  have hu25 := Try.underlying25
  have HR0_1 := Aside0.mk hr0_1
  have HC0_1 := Aside0.mk hc0_1
  clear hr0_1 hc0_1
  have HR1 := Aside0.mk hr1
  have HC1 := Aside0.mk hc1
  clear hr1 hc1
  have HB := Aside0.mk (Below.refl w.heap.size w)
  have H : ((impl_NetOk.f a0_0 l0_1).bind fun t327 => (if t327 = true then (impl_WalkOk.j0 k l1 (decide ((l1.length : Int) > 20)) a0_0 l0_1) else (impl_WalkOk.j0 k l1 true a0_0 l0_1))) = some r := h
  clear h
  have HC3 := Aside0.mk H
  clear H
  go_enter Try.func20, Try.ntmps20
  go_upto_region 1 with (first | ((with_reducible refine gate_dst (N := 2) rfl ?_); (try (refine gate_guard (by rfl) ?_; dsimp only)); refine bx_ 2 #[.int .i64 a0_0, .slice A0_1 l0_1.length c0_1] 25 ?_; intro gb326 hg w4 hbox hb; have BK326 := Aside0.mk (hbox); have GW326 := Aside0.mk (zs_ hg (ne_ HB.out)); have GE326 := Aside0.mk (zs_ hg (ne_ HB.out)); replace HB := kB_ HB hb; clear hb hbox hg))
  (try simp only [Act.put, List.setIfInBounds_toArray, List.set_cons_zero, List.set_cons_succ])
  go_cut [14] (fun v14 wc => ∃ (kq : Nat) (x14_2 : Bool), v14 = .bool x14_2 ∧ Aside0 (impl_WalkOk.j0 kq l1 x14_2 a0_0 l0_1 = some r) ∧ Aside0 (kq ≤ k) ∧ Aside0 (wc.heap[gb326]? = some (.cells #[.int .i64 a0_0, (.slice A0_1 l0_1.length c0_1)] 25 (0, 0))) ∧ Aside0 (Below w.heap.size w wc))
  case first =>
   have H := HC3.out
   clear HC3
   replace H := Option.bind_eq_some_iff.mp H
   obtain ⟨t327, A50, H⟩ := H
   try dsimp only at H
   have A5 := Aside0.mk A50
   clear A50
   by_cases c6 : t327 = true
   ·subst c6
    have H1 : (impl_WalkOk.j0 k l1 (decide ((l1.length : Int) > 20)) a0_0 l0_1) = some r := by rw [if_pos rfl] at H; exact H
    clear H
    have H := H1
    clear H1
    have H' := Aside0.mk H
    clear H
    obtain ⟨hcz7_0, hcz7_1, hfz7_0, hfz7_1⟩ := cz2_ BK326.out
    go_wp2_with (first | ((with_reducible refine gate_callee (f := 27) rfl ?_); refine gl_ (some 8) Try.func27 #[.agg #[.int .i64 a0_0, .slice A0_1 l0_1.length c0_1]] ?_; (with_reducible refine (impl_NetOk.calls a0_0 _ _ l0_1 true _ ?side1 ?side2 A5.out).mono ?_); (case side1 => exact nc_ (Kd.C_below HR0_1.out HB.out)); (case side2 => exact HC0_1.out); rintro e w8 ⟨rfl, hb⟩; refine ⟨_, rfl, ?_⟩; replace BK326 := kb_ BK326 hb; replace HB := kB_ HB hb; (try clear hb); (try clear hb2); (try clear hk); (try clear hi)))
    go_meet
    case rel => exact ⟨_, (decide ((l1.length : Int) > 20)), ns_, H', ⟨by first | omega | exact Nat.le_refl _⟩, ⟨nb_ BK326.out⟩, ⟨ne_ HB.out⟩⟩
   replace c6 := Bool.eq_false_iff.mpr c6
   subst c6
   have H1 : (impl_WalkOk.j0 k l1 true a0_0 l0_1) = some r := by rw [if_neg (show ¬ (false = true) by decide)] at H; exact H
   clear H
   have H := H1
   clear H1
   have H' := Aside0.mk H
   clear H
   obtain ⟨hcz9_0, hcz9_1, hfz9_0, hfz9_1⟩ := cz2_ BK326.out
   go_wp2_with (first | ((with_reducible refine gate_callee (f := 27) rfl ?_); refine gl_ (some 8) Try.func27 #[.agg #[.int .i64 a0_0, .slice A0_1 l0_1.length c0_1]] ?_; (with_reducible refine (impl_NetOk.calls a0_0 _ _ l0_1 false _ ?side1 ?side2 A5.out).mono ?_); (case side1 => exact nc_ (Kd.C_below HR0_1.out HB.out)); (case side2 => exact HC0_1.out); rintro e w10 ⟨rfl, hb⟩; refine ⟨_, rfl, ?_⟩; replace BK326 := kb_ BK326 hb; replace HB := kB_ HB hb; (try clear hb); (try clear hb2); (try clear hk); (try clear hi)))
   go_meet
   case rel => exact ⟨_, (true), ns_, H', ⟨by first | omega | exact Nat.le_refl _⟩, ⟨nb_ BK326.out⟩, ⟨ne_ HB.out⟩⟩
  case rest =>
   clear HC3
   try clear c1
   obtain ⟨kq, x14_2, rfl, HA, HJ2, BK326, HB⟩ := hcut
   cases kq with
   | zero => exact absurd HA.out (by simp [impl_WalkOk.j0])
   | succ kj2 =>
    have H := HA.out
    clear HA
    simp only [impl_WalkOk.j0] at H
    by_cases c11 : x14_2 = true
    ·subst c11
     have H1 : (some false) = some r := by rw [if_pos rfl] at H; exact H
     clear H
     have H := H1
     clear H1
     obtain rfl := Option.some.inj H
     go_wp2
     go_ret
     exact ⟨nw_, ne_ HB.out⟩
    replace c11 := Bool.eq_false_iff.mpr c11
    subst c11
    have H1 : (impl_WalkOk.l0 kj2 l1 l1 (l1.length : Int) 0 a0_0 l0_1) = some r := by rw [if_neg (show ¬ (false = true) by decide)] at H; exact H
    clear H
    have H := H1
    clear H1
    have H' := Aside0.mk H
    clear H
    go_wp2
    go_loopg [17] kj2 (fun kq v17 w' => ∃ (x17_2 : Int), v17 = .int .i64 x17_2 ∧ Aside0 (impl_WalkOk.l0 kq l1 l1 (l1.length : Int) x17_2 a0_0 l0_1 = some r) ∧ Aside0 (kq ≤ kj2) ∧ Aside0 (w'.heap[gb326]? = some (.cells #[.int .i64 a0_0, (.slice A0_1 l0_1.length c0_1)] 25 (0, 0))) ∧ Aside0 (Below w.heap.size w w'))
    case atStart => exact ⟨(0), ns_, H', ⟨Nat.le_refl _⟩, ⟨nb_ BK326.out⟩, ⟨ne_ HB.out⟩⟩
    case round =>
     clear H'
     try clear c1
     try clear c11
     obtain ⟨x17_2, rfl, HA, HK2, BK326, HB⟩ := hrel
     cases gk with
     | zero => exact absurd HA.out (by simp [impl_WalkOk.l0])
     | succ k2 =>
      have H := HA.out
      clear HA
      simp only [impl_WalkOk.l0] at H
      by_cases c12 : x17_2 < (l1.length : Int)
      rotate_left
      ·rw [if_neg c12] at H
       have c12b0 : decide (x17_2 < (l1.length : Int)) = false := decide_eq_false c12
       clear c12
       obtain rfl := Option.some.inj H
       go_wp2
       go_ret
       exact ⟨nw_, ne_ HB.out⟩

      rw [if_pos c12] at H
      have c12b0 : decide (x17_2 < (l1.length : Int)) = true := decide_eq_true c12
      clear c12
      by_cases c13 : 0 ≤ x17_2
      rotate_left
      ·rw [if_neg c13] at H
       exact absurd H (by simp)
      rw [if_pos c13] at H
      have c13b0 : decide (0 ≤ x17_2) = true := decide_eq_true c13
      clear c13
      by_cases c14 : x17_2 < (l1.length : Int)
      rotate_left
      ·rw [if_neg c14] at H
       exact absurd H (by simp)
      rw [if_pos c14] at H
      have c14b0 : decide (x17_2 < (l1.length : Int)) = true := decide_eq_true c14
      clear c14
      replace H := Option.bind_eq_some_iff.mp H
      obtain ⟨t329, A150, H⟩ := H
      try dsimp only at H
      have A15 := Aside0.mk A150
      clear A150
      by_cases c16 : t329 = true
      rotate_left
      ·replace c16 := Bool.eq_false_iff.mpr c16
       subst c16
       have H1 : (some false) = some r := by rw [if_neg (show ¬ (false = true) by decide)] at H; exact H
       clear H
       have H := H1
       clear H1
       obtain rfl := Option.some.inj H
       have p328 : 0 ≤ (x17_2 : Int) := of_decide_eq_true nx_
       have q328 : x17_2 < (l1.length : Int) := of_decide_eq_true nx_
       obtain ⟨ad328, e328, hx328_0⟩ := Kd.at_int HR1.out x17_2 p328 q328
       cases e328
       replace hx328_0 := hb_ HB.out hx328_0
       replace p328 := eq_true p328
       replace q328 := eq_true q328
       try go_wp2
       replace BK326 := Aside0.mk (blk_drew BK326.out)
       replace HB := Aside0.mk (below_drew1 HB.out)
       refine start_ (n := 30) (S := fun w' => w'.cell? ⟨gb326, 0, none⟩ = some (.int .i64 a0_0) ∧ w'.cell? ⟨gb326, 1, none⟩ = some (.slice A0_1 l0_1.length c0_1)) (ds := []) z20_0 (by kernel_rfl) rfl rfl ⟨ct_ BK326.out 0, ct_ BK326.out 1⟩ (fun hHeld => ?_); refine with_tabW impl_WalkOk.tab6 impl_WalkOk.bits6 (fun HT_ HW_ => ?_)
       generalize wr.drew = w29 at BK326 HB hHeld ⊢
       refine pu_ 0 22 z20_1 HT_.out ?_
       refine pu_ 1 23 z20_2 HT_.out ?_
       refine tk_ 2 24 z20_3 HT_.out HW_.out hHeld ?_
       refine pu_ 3 25 z20_4 HT_.out ?_
       refine pu_ 4 26 z20_5 HT_.out ?_
       refine one_ (i := 5) (N := some 27) z20_6 rfl rfl (one_of HT_.out (by kernel_rfl)) (by decide) (fun K hK => ?_)
       refine go_ Try.func34 #[.int .i64 (rd l1 x17_2), .int .i64 0, .int .i64 (wrap64 ((l0_1.length : Int) - 1))] ?_
       with_reducible refine (impl_within.calls (rd l1 x17_2) 0 (wrap64 ((l0_1.length : Int) - 1)) false _ A15.out).mono ?_
       rintro e w' ⟨rfl, ⟨nd, rfl⟩⟩
       refine ⟨_, rfl, ?_⟩
       refine hK.out _ _ ⟨ct_ BK326.out 0, ct_ BK326.out 1⟩ (fun hHeld => ?_)
       clear hK K
       refine nm1_ (some 27) ?_
       refine pu_ 6 28 z20_7 HT_.out ?_
       refine pu_ 7 29 z20_8 HT_.out ?_
       refine un_ 8 30 z20_9 HT_.out ?_
       refine un_ 9 31 z20_10 HT_.out ?_
       refine un_ 10 32 z20_11 HT_.out ?_
       refine un_ 11 33 z20_12 HT_.out ?_
       refine un_ 12 34 z20_31 HT_.out ?_
       refine un_ 13 35 z20_32 HT_.out ?_
       refine un_ 14 36 z20_33 HT_.out ?_
       refine un_ 15 37 z20_34 HT_.out ?_
       refine un_ 16 38 z20_35 HT_.out ?_
       refine un_ 17 39 z20_36 HT_.out ?_
       refine un_ 18 40 z20_37 HT_.out ?_
       refine un_ 19 41 z20_38 HT_.out ?_
       refine un_ 20 42 z20_39 HT_.out ?_
       refine un_ 21 43 z20_40 HT_.out ?_
       refine un_ 22 44 z20_41 HT_.out ?_
       refine un_ 23 45 z20_24 HT_.out ?_
       refine un_ 24 46 z20_25 HT_.out ?_
       refine un_ 25 47 z20_26 HT_.out ?_
       refine un_ 26 48 z20_27 HT_.out ?_
       refine un_ 27 49 z20_28 HT_.out ?_
       refine un_ 28 50 z20_29 HT_.out ?_
       refine pu_ 29 51 z20_30 HT_.out ?_
       refine done_ (done_of HT_.out (by kernel_rfl)) ?_
       try go_wp2
       go_ret
       exact ⟨nw_, ne_ HB.out⟩
      subst c16
      rw [if_pos rfl] at H
      by_cases c17 : x17_2 > 0
      rotate_left
      ·rw [if_neg c17] at H
       have c17b0 : decide (0 < x17_2) = false := decide_eq_false c17
       clear c17
       have H' := Aside0.mk H
       clear H
       have p328 : 0 ≤ (x17_2 : Int) := of_decide_eq_true nx_
       have q328 : x17_2 < (l1.length : Int) := of_decide_eq_true nx_
       obtain ⟨ad328, e328, hx328_0⟩ := Kd.at_int HR1.out x17_2 p328 q328
       cases e328
       replace hx328_0 := hb_ HB.out hx328_0
       replace p328 := eq_true p328
       replace q328 := eq_true q328
       try go_wp2
       replace BK326 := Aside0.mk (blk_drew BK326.out)
       replace HB := Aside0.mk (below_drew1 HB.out)
       refine start_ (n := 30) (S := fun w' => w'.cell? ⟨gb326, 0, none⟩ = some (.int .i64 a0_0) ∧ w'.cell? ⟨gb326, 1, none⟩ = some (.slice A0_1 l0_1.length c0_1)) (ds := []) z20_0 (by kernel_rfl) rfl rfl ⟨ct_ BK326.out 0, ct_ BK326.out 1⟩ (fun hHeld => ?_); refine with_tabW impl_WalkOk.tab6 impl_WalkOk.bits6 (fun HT_ HW_ => ?_)
       generalize wr.drew = w28 at BK326 HB hHeld ⊢
       refine pu_ 0 22 z20_1 HT_.out ?_
       refine pu_ 1 23 z20_2 HT_.out ?_
       refine tk_ 2 24 z20_3 HT_.out HW_.out hHeld ?_
       refine pu_ 3 25 z20_4 HT_.out ?_
       refine pu_ 4 26 z20_5 HT_.out ?_
       refine one_ (i := 5) (N := some 27) z20_6 rfl rfl (one_of HT_.out (by kernel_rfl)) (by decide) (fun K hK => ?_)
       refine go_ Try.func34 #[.int .i64 (rd l1 x17_2), .int .i64 0, .int .i64 (wrap64 ((l0_1.length : Int) - 1))] ?_
       with_reducible refine (impl_within.calls (rd l1 x17_2) 0 (wrap64 ((l0_1.length : Int) - 1)) true _ A15.out).mono ?_
       rintro e w' ⟨rfl, ⟨nd, rfl⟩⟩
       refine ⟨_, rfl, ?_⟩
       refine hK.out _ _ ⟨ct_ BK326.out 0, ct_ BK326.out 1⟩ (fun hHeld => ?_)
       clear hK K
       refine nm1_ (some 27) ?_
       refine pu_ 6 28 z20_7 HT_.out ?_
       refine pu_ 7 29 z20_8 HT_.out ?_
       refine pu_ 8 30 z20_9 HT_.out ?_
       refine pu_ 9 31 z20_10 HT_.out ?_
       refine pu_ 10 32 z20_11 HT_.out ?_
       refine un_ 11 33 z20_12 HT_.out ?_
       refine un_ 12 34 z20_31 HT_.out ?_
       refine un_ 13 35 z20_32 HT_.out ?_
       refine un_ 14 36 z20_33 HT_.out ?_
       refine un_ 15 37 z20_34 HT_.out ?_
       refine un_ 16 38 z20_35 HT_.out ?_
       refine un_ 17 39 z20_36 HT_.out ?_
       refine un_ 18 40 z20_37 HT_.out ?_
       refine un_ 19 41 z20_38 HT_.out ?_
       refine un_ 20 42 z20_39 HT_.out ?_
       refine un_ 21 43 z20_40 HT_.out ?_
       refine un_ 22 44 z20_41 HT_.out ?_
       refine un_ 23 45 z20_24 HT_.out ?_
       refine un_ 24 46 z20_25 HT_.out ?_
       refine un_ 25 47 z20_26 HT_.out ?_
       refine un_ 26 48 z20_27 HT_.out ?_
       refine un_ 27 49 z20_28 HT_.out ?_
       refine pu_ 28 50 z20_29 HT_.out ?_
       refine pu_ 29 51 z20_30 HT_.out ?_
       refine done_ (done_of HT_.out (by kernel_rfl)) ?_
       try go_wp2
       go_roundg k2
       case measure => have := HJ2.out; have := HK2.out; omega
       case rel => exact ⟨(wrap64 (x17_2 + 1)), ns_, H', ⟨by have := HJ2.out; have := HK2.out; omega⟩, ⟨nb_ BK326.out⟩, ⟨ne_ HB.out⟩⟩
      rw [if_pos c17] at H
      have c17b0 : decide (0 < x17_2) = true := decide_eq_true c17
      clear c17
      obtain ⟨ji18, hji18⟩ : ∃ j_ : Int, (wrap64 (x17_2 - 1)) = j_ := ⟨_, rfl⟩
      replace H : (if 0 ≤ (ji18) then (if (ji18) < (l1.length : Int) then (if 0 ≤ (rd l1 (ji18)) then (if (rd l1 (ji18)) < (l0_1.length : Int) then (if 0 ≤ (rd l1 x17_2) then (if (rd l1 x17_2) < (l0_1.length : Int) then (if ((rd_T47 l0_1 (rd l1 (ji18))).f1) = ((rd_T47 l0_1 (rd l1 x17_2)).f0) then (impl_WalkOk.l0 k2 l1 l1 (l1.length : Int) (wrap64 (x17_2 + 1)) a0_0 l0_1) else (some false)) else (none)) else (none)) else (none)) else (none)) else (none)) else (none)) = some r := by first | (rw [hji18] at H; exact H) | (simp only [hji18] at H ⊢; exact H)
      (try rw [hji18] at A15)
      have hji18w : (IntKind.i64.wrap (x17_2 - 1)) = ji18 := (i64_w _).trans hji18
      by_cases c19 : 0 ≤ (ji18)
      rotate_left
      ·rw [if_neg c19] at H
       exact absurd H (by simp)
      rw [if_pos c19] at H
      have c19b0 : decide (0 ≤ (ji18)) = true := decide_eq_true c19
      clear c19
      by_cases c20 : (ji18) < (l1.length : Int)
      rotate_left
      ·rw [if_neg c20] at H
       exact absurd H (by simp)
      rw [if_pos c20] at H
      have c20b0 : decide ((ji18) < (l1.length : Int)) = true := decide_eq_true c20
      clear c20
      by_cases c21 : 0 ≤ (rd l1 (ji18))
      rotate_left
      ·rw [if_neg c21] at H
       exact absurd H (by simp)
      rw [if_pos c21] at H
      have c21b0 : decide (0 ≤ (rd l1 (ji18))) = true := decide_eq_true c21
      clear c21
      by_cases c22 : (rd l1 (ji18)) < (l0_1.length : Int)
      rotate_left
      ·rw [if_neg c22] at H
       exact absurd H (by simp)
      rw [if_pos c22] at H
      have c22b0 : decide ((rd l1 (ji18)) < (l0_1.length : Int)) = true := decide_eq_true c22
      clear c22
      by_cases c23 : 0 ≤ (rd l1 x17_2)
      rotate_left
      ·rw [if_neg c23] at H
       exact absurd H (by simp)
      rw [if_pos c23] at H
      have c23b0 : decide (0 ≤ (rd l1 x17_2)) = true := decide_eq_true c23
      clear c23
      by_cases c24 : (rd l1 x17_2) < (l0_1.length : Int)
      rotate_left
      ·rw [if_neg c24] at H
       exact absurd H (by simp)
      rw [if_pos c24] at H
      have c24b0 : decide ((rd l1 x17_2) < (l0_1.length : Int)) = true := decide_eq_true c24
      clear c24
      by_cases c25 : ((rd_T47 l0_1 (rd l1 (ji18))).f1) = ((rd_T47 l0_1 (rd l1 x17_2)).f0)
      rotate_left
      ·rw [if_neg c25] at H
       have c25b0 : (((rd_T47 l0_1 (rd l1 (ji18))).f1) == ((rd_T47 l0_1 (rd l1 x17_2)).f0)) = false := beq_eq_false_iff_ne.mpr c25
       have c25b1 : (((rd_T47 l0_1 (rd l1 (ji18))).f1) != ((rd_T47 l0_1 (rd l1 x17_2)).f0)) = true := bne_iff_ne.mpr c25
       obtain rfl := Option.some.inj H
       have p328 : 0 ≤ (x17_2 : Int) := of_decide_eq_true nx_
       have q328 : x17_2 < (l1.length : Int) := of_decide_eq_true nx_
       obtain ⟨ad328, e328, hx328_0⟩ := Kd.at_int HR1.out x17_2 p328 q328
       cases e328
       replace hx328_0 := hb_ HB.out hx328_0
       replace p328 := eq_true p328
       replace q328 := eq_true q328
       try go_wp2
       replace BK326 := Aside0.mk (blk_drew BK326.out)
       replace HB := Aside0.mk (below_drew1 HB.out)
       have p330 : 0 ≤ ((ji18) : Int) := of_decide_eq_true nx_
       have q330 : (ji18) < (l1.length : Int) := of_decide_eq_true nx_
       obtain ⟨ad330, e330, hx330_0⟩ := Kd.at_int HR1.out (ji18) p330 q330
       have hw330_0 := hx330_0
       obtain rfl : ad328 = ad330 := (by injection e330)
       replace hx330_0 := hb_ HB.out hx330_0
       replace p330 := eq_true p330
       replace q330 := eq_true q330
       have p331 : 0 ≤ ((rd l1 (ji18)) : Int) := of_decide_eq_true nx_
       have q331 : (rd l1 (ji18)) < (l0_1.length : Int) := of_decide_eq_true nx_
       obtain ⟨ad331, e331, hx331_0, hx331_1, hx331_2, hx331_3, hx331_4⟩ := at_T47 HR0_1.out (rd l1 (ji18)) p331 q331
       have hw331_4 := hx331_4
       have hw331_3 := hx331_3
       have hw331_2 := hx331_2
       have hw331_1 := hx331_1
       have hw331_0 := hx331_0
       cases e331
       replace hx331_0 := hb_ HB.out hx331_0
       replace hx331_1 := hb_ HB.out hx331_1
       replace hx331_2 := hb_ HB.out hx331_2
       replace hx331_3 := hb_ HB.out hx331_3
       replace hx331_4 := hb_ HB.out hx331_4
       replace p331 := eq_true p331
       replace q331 := eq_true q331
       have p332 : 0 ≤ ((rd l1 x17_2) : Int) := of_decide_eq_true nx_
       have q332 : (rd l1 x17_2) < (l0_1.length : Int) := of_decide_eq_true nx_
       obtain ⟨ad332, e332, hx332_0, hx332_1, hx332_2, hx332_3, hx332_4⟩ := at_T47 HR0_1.out (rd l1 x17_2) p332 q332
       have hw332_4 := hx332_4
       have hw332_3 := hx332_3
       have hw332_2 := hx332_2
       have hw332_1 := hx332_1
       have hw332_0 := hx332_0
       obtain rfl : ad331 = ad332 := (by injection e332)
       replace hx332_0 := hb_ HB.out hx332_0
       replace hx332_1 := hb_ HB.out hx332_1
       replace hx332_2 := hb_ HB.out hx332_2
       replace hx332_3 := hb_ HB.out hx332_3
       replace hx332_4 := hb_ HB.out hx332_4
       replace p332 := eq_true p332
       replace q332 := eq_true q332
       refine start_ (n := 30) (S := fun w' => w'.cell? ⟨gb326, 0, none⟩ = some (.int .i64 a0_0) ∧ w'.cell? ⟨gb326, 1, none⟩ = some (.slice (some ad331) l0_1.length c0_1) ∧ w'.cell? (ad328.add ((ji18)).toNat) = some (.int .i64 (rd l1 (ji18))) ∧ w'.cell? (ad331.add (((rd l1 (ji18))).toNat * 5)) = some (.int .i64 ((rd_T47 l0_1 (rd l1 (ji18))).f0)) ∧ w'.cell? ⟨(ad331.add (((rd l1 (ji18))).toNat * 5)).block, (ad331.add (((rd l1 (ji18))).toNat * 5)).off + 1, none⟩ = some (.int .i64 ((rd_T47 l0_1 (rd l1 (ji18))).f1)) ∧ w'.cell? ⟨(ad331.add (((rd l1 (ji18))).toNat * 5)).block, (ad331.add (((rd l1 (ji18))).toNat * 5)).off + 2, none⟩ = some (.int .i64 ((rd_T47 l0_1 (rd l1 (ji18))).f2)) ∧ w'.cell? ⟨(ad331.add (((rd l1 (ji18))).toNat * 5)).block, (ad331.add (((rd l1 (ji18))).toNat * 5)).off + 3, none⟩ = some (.int .i64 ((rd_T47 l0_1 (rd l1 (ji18))).f3)) ∧ w'.cell? ⟨(ad331.add (((rd l1 (ji18))).toNat * 5)).block, (ad331.add (((rd l1 (ji18))).toNat * 5)).off + 4, none⟩ = some (.int .i64 ((rd_T47 l0_1 (rd l1 (ji18))).f4)) ∧ w'.cell? (ad331.add (((rd l1 x17_2)).toNat * 5)) = some (.int .i64 ((rd_T47 l0_1 (rd l1 x17_2)).f0)) ∧ w'.cell? ⟨(ad331.add (((rd l1 x17_2)).toNat * 5)).block, (ad331.add (((rd l1 x17_2)).toNat * 5)).off + 1, none⟩ = some (.int .i64 ((rd_T47 l0_1 (rd l1 x17_2)).f1)) ∧ w'.cell? ⟨(ad331.add (((rd l1 x17_2)).toNat * 5)).block, (ad331.add (((rd l1 x17_2)).toNat * 5)).off + 2, none⟩ = some (.int .i64 ((rd_T47 l0_1 (rd l1 x17_2)).f2)) ∧ w'.cell? ⟨(ad331.add (((rd l1 x17_2)).toNat * 5)).block, (ad331.add (((rd l1 x17_2)).toNat * 5)).off + 3, none⟩ = some (.int .i64 ((rd_T47 l0_1 (rd l1 x17_2)).f3)) ∧ w'.cell? ⟨(ad331.add (((rd l1 x17_2)).toNat * 5)).block, (ad331.add (((rd l1 x17_2)).toNat * 5)).off + 4, none⟩ = some (.int .i64 ((rd_T47 l0_1 (rd l1 x17_2)).f4))) (ds := []) z20_0 (by kernel_rfl) rfl rfl ⟨ct_ BK326.out 0, ct_ BK326.out 1, ((HB.out.cell (World.block_lt_of_cell? w _ hw330_0)).trans hw330_0), ((HB.out.cell (World.block_lt_of_cell? w _ hw331_0)).trans hw331_0), ((HB.out.cell (World.block_lt_of_cell? w _ hw331_1)).trans hw331_1), ((HB.out.cell (World.block_lt_of_cell? w _ hw331_2)).trans hw331_2), ((HB.out.cell (World.block_lt_of_cell? w _ hw331_3)).trans hw331_3), ((HB.out.cell (World.block_lt_of_cell? w _ hw331_4)).trans hw331_4), ((HB.out.cell (World.block_lt_of_cell? w _ hw332_0)).trans hw332_0), ((HB.out.cell (World.block_lt_of_cell? w _ hw332_1)).trans hw332_1), ((HB.out.cell (World.block_lt_of_cell? w _ hw332_2)).trans hw332_2), ((HB.out.cell (World.block_lt_of_cell? w _ hw332_3)).trans hw332_3), ((HB.out.cell (World.block_lt_of_cell? w _ hw332_4)).trans hw332_4)⟩ (fun hHeld => ?_); refine with_tabW impl_WalkOk.tab6 impl_WalkOk.bits6 (fun HT_ HW_ => ?_)
       generalize wr.drew = w27 at BK326 HB hx330_0 hx331_0 hx331_1 hx331_2 hx331_3 hx331_4 hx332_0 hx332_1 hx332_2 hx332_3 hx332_4 hHeld ⊢
       refine pu_ 0 22 z20_1 HT_.out ?_
       refine pu_ 1 23 z20_2 HT_.out ?_
       refine tk_ 2 24 z20_3 HT_.out HW_.out hHeld ?_
       refine pu_ 3 25 z20_4 HT_.out ?_
       refine pu_ 4 26 z20_5 HT_.out ?_
       refine one_ (i := 5) (N := some 27) z20_6 rfl rfl (one_of HT_.out (by kernel_rfl)) (by decide) (fun K hK => ?_)
       refine go_ Try.func34 #[.int .i64 (rd l1 x17_2), .int .i64 0, .int .i64 (wrap64 ((l0_1.length : Int) - 1))] ?_
       with_reducible refine (impl_within.calls (rd l1 x17_2) 0 (wrap64 ((l0_1.length : Int) - 1)) true _ A15.out).mono ?_
       rintro e w' ⟨rfl, ⟨nd, rfl⟩⟩
       refine ⟨_, rfl, ?_⟩
       refine hK.out _ _ ⟨ct_ BK326.out 0, ct_ BK326.out 1, ((HB.out.cell (World.block_lt_of_cell? w _ hw330_0)).trans hw330_0), ((HB.out.cell (World.block_lt_of_cell? w _ hw331_0)).trans hw331_0), ((HB.out.cell (World.block_lt_of_cell? w _ hw331_1)).trans hw331_1), ((HB.out.cell (World.block_lt_of_cell? w _ hw331_2)).trans hw331_2), ((HB.out.cell (World.block_lt_of_cell? w _ hw331_3)).trans hw331_3), ((HB.out.cell (World.block_lt_of_cell? w _ hw331_4)).trans hw331_4), ((HB.out.cell (World.block_lt_of_cell? w _ hw332_0)).trans hw332_0), ((HB.out.cell (World.block_lt_of_cell? w _ hw332_1)).trans hw332_1), ((HB.out.cell (World.block_lt_of_cell? w _ hw332_2)).trans hw332_2), ((HB.out.cell (World.block_lt_of_cell? w _ hw332_3)).trans hw332_3), ((HB.out.cell (World.block_lt_of_cell? w _ hw332_4)).trans hw332_4)⟩ (fun hHeld => ?_)
       clear hK K
       refine nm1_ (some 27) ?_
       refine pu_ 6 28 z20_7 HT_.out ?_
       refine pu_ 7 29 z20_8 HT_.out ?_
       refine pu_ 8 30 z20_9 HT_.out ?_
       refine pu_ 9 31 z20_10 HT_.out ?_
       refine pu_ 10 32 z20_11 HT_.out ?_
       refine pu_ 11 33 z20_12 HT_.out ?_
       refine pu_ 13 35 z20_13 HT_.out ?_
       refine pu_ 14 36 z20_14 HT_.out ?_
       refine pu_ 15 37 z20_15 HT_.out ?_
       refine pu_ 16 38 z20_16 HT_.out ?_
       refine pu_ 21 43 z20_17 HT_.out ?_
       refine pu_ 23 45 z20_18 HT_.out ?_
       refine tk_ 12 34 z20_19 HT_.out HW_.out hHeld ?_
       refine tk_ 17 39 z20_20 HT_.out HW_.out hHeld ?_
       refine pu_ 18 40 z20_21 HT_.out ?_
       refine pu_ 19 41 z20_22 HT_.out ?_
       refine tk_ 20 42 z20_23 HT_.out HW_.out hHeld ?_
       refine tk_ 22 44 z20_24 HT_.out HW_.out hHeld ?_
       refine pu_ 24 46 z20_25 HT_.out ?_
       refine pu_ 25 47 z20_26 HT_.out ?_
       refine tk_ 26 48 z20_27 HT_.out HW_.out hHeld ?_
       refine pu_ 27 49 z20_28 HT_.out ?_
       refine pu_ 28 50 z20_29 HT_.out ?_
       refine pu_ 29 51 z20_30 HT_.out ?_
       refine done_ (done_of HT_.out (by kernel_rfl)) ?_
       try go_wp2
       go_ret
       exact ⟨by first | rfl | (simp [errW_none, errW_some] <;> rfl) | (simp only [← hji18]; first | rfl | (simp [errW_none, errW_some] <;> rfl)) | (simp [*, errW_none, errW_some] <;> rfl), ne_ HB.out⟩
      rw [if_pos c25] at H
      have c25b0 : (((rd_T47 l0_1 (rd l1 (ji18))).f1) == ((rd_T47 l0_1 (rd l1 x17_2)).f0)) = true := beq_iff_eq.mpr c25
      have c25b1 : (((rd_T47 l0_1 (rd l1 (ji18))).f1) != ((rd_T47 l0_1 (rd l1 x17_2)).f0)) = false := bne_eq_false_iff_eq.mpr c25
      clear c25
      have H' := Aside0.mk H
      clear H
      have p328 : 0 ≤ (x17_2 : Int) := of_decide_eq_true nx_
      have q328 : x17_2 < (l1.length : Int) := of_decide_eq_true nx_
      obtain ⟨ad328, e328, hx328_0⟩ := Kd.at_int HR1.out x17_2 p328 q328
      cases e328
      replace hx328_0 := hb_ HB.out hx328_0
      replace p328 := eq_true p328
      replace q328 := eq_true q328
      try go_wp2
      replace BK326 := Aside0.mk (blk_drew BK326.out)
      replace HB := Aside0.mk (below_drew1 HB.out)
      have p330 : 0 ≤ ((ji18) : Int) := of_decide_eq_true nx_
      have q330 : (ji18) < (l1.length : Int) := of_decide_eq_true nx_
      obtain ⟨ad330, e330, hx330_0⟩ := Kd.at_int HR1.out (ji18) p330 q330
      have hw330_0 := hx330_0
      obtain rfl : ad328 = ad330 := (by injection e330)
      replace hx330_0 := hb_ HB.out hx330_0
      replace p330 := eq_true p330
      replace q330 := eq_true q330
      have p331 : 0 ≤ ((rd l1 (ji18)) : Int) := of_decide_eq_true nx_
      have q331 : (rd l1 (ji18)) < (l0_1.length : Int) := of_decide_eq_true nx_
      obtain ⟨ad331, e331, hx331_0, hx331_1, hx331_2, hx331_3, hx331_4⟩ := at_T47 HR0_1.out (rd l1 (ji18)) p331 q331
      have hw331_4 := hx331_4
      have hw331_3 := hx331_3
      have hw331_2 := hx331_2
      have hw331_1 := hx331_1
      have hw331_0 := hx331_0
      cases e331
      replace hx331_0 := hb_ HB.out hx331_0
      replace hx331_1 := hb_ HB.out hx331_1
      replace hx331_2 := hb_ HB.out hx331_2
      replace hx331_3 := hb_ HB.out hx331_3
      replace hx331_4 := hb_ HB.out hx331_4
      replace p331 := eq_true p331
      replace q331 := eq_true q331
      have p332 : 0 ≤ ((rd l1 x17_2) : Int) := of_decide_eq_true nx_
      have q332 : (rd l1 x17_2) < (l0_1.length : Int) := of_decide_eq_true nx_
      obtain ⟨ad332, e332, hx332_0, hx332_1, hx332_2, hx332_3, hx332_4⟩ := at_T47 HR0_1.out (rd l1 x17_2) p332 q332
      have hw332_4 := hx332_4
      have hw332_3 := hx332_3
      have hw332_2 := hx332_2
      have hw332_1 := hx332_1
      have hw332_0 := hx332_0
      obtain rfl : ad331 = ad332 := (by injection e332)
      replace hx332_0 := hb_ HB.out hx332_0
      replace hx332_1 := hb_ HB.out hx332_1
      replace hx332_2 := hb_ HB.out hx332_2
      replace hx332_3 := hb_ HB.out hx332_3
      replace hx332_4 := hb_ HB.out hx332_4
      replace p332 := eq_true p332
      replace q332 := eq_true q332
      refine start_ (n := 30) (S := fun w' => w'.cell? ⟨gb326, 0, none⟩ = some (.int .i64 a0_0) ∧ w'.cell? ⟨gb326, 1, none⟩ = some (.slice (some ad331) l0_1.length c0_1) ∧ w'.cell? (ad328.add ((ji18)).toNat) = some (.int .i64 (rd l1 (ji18))) ∧ w'.cell? (ad331.add (((rd l1 (ji18))).toNat * 5)) = some (.int .i64 ((rd_T47 l0_1 (rd l1 (ji18))).f0)) ∧ w'.cell? ⟨(ad331.add (((rd l1 (ji18))).toNat * 5)).block, (ad331.add (((rd l1 (ji18))).toNat * 5)).off + 1, none⟩ = some (.int .i64 ((rd_T47 l0_1 (rd l1 (ji18))).f1)) ∧ w'.cell? ⟨(ad331.add (((rd l1 (ji18))).toNat * 5)).block, (ad331.add (((rd l1 (ji18))).toNat * 5)).off + 2, none⟩ = some (.int .i64 ((rd_T47 l0_1 (rd l1 (ji18))).f2)) ∧ w'.cell? ⟨(ad331.add (((rd l1 (ji18))).toNat * 5)).block, (ad331.add (((rd l1 (ji18))).toNat * 5)).off + 3, none⟩ = some (.int .i64 ((rd_T47 l0_1 (rd l1 (ji18))).f3)) ∧ w'.cell? ⟨(ad331.add (((rd l1 (ji18))).toNat * 5)).block, (ad331.add (((rd l1 (ji18))).toNat * 5)).off + 4, none⟩ = some (.int .i64 ((rd_T47 l0_1 (rd l1 (ji18))).f4)) ∧ w'.cell? (ad331.add (((rd l1 x17_2)).toNat * 5)) = some (.int .i64 ((rd_T47 l0_1 (rd l1 x17_2)).f0)) ∧ w'.cell? ⟨(ad331.add (((rd l1 x17_2)).toNat * 5)).block, (ad331.add (((rd l1 x17_2)).toNat * 5)).off + 1, none⟩ = some (.int .i64 ((rd_T47 l0_1 (rd l1 x17_2)).f1)) ∧ w'.cell? ⟨(ad331.add (((rd l1 x17_2)).toNat * 5)).block, (ad331.add (((rd l1 x17_2)).toNat * 5)).off + 2, none⟩ = some (.int .i64 ((rd_T47 l0_1 (rd l1 x17_2)).f2)) ∧ w'.cell? ⟨(ad331.add (((rd l1 x17_2)).toNat * 5)).block, (ad331.add (((rd l1 x17_2)).toNat * 5)).off + 3, none⟩ = some (.int .i64 ((rd_T47 l0_1 (rd l1 x17_2)).f3)) ∧ w'.cell? ⟨(ad331.add (((rd l1 x17_2)).toNat * 5)).block, (ad331.add (((rd l1 x17_2)).toNat * 5)).off + 4, none⟩ = some (.int .i64 ((rd_T47 l0_1 (rd l1 x17_2)).f4))) (ds := []) z20_0 (by kernel_rfl) rfl rfl ⟨ct_ BK326.out 0, ct_ BK326.out 1, ((HB.out.cell (World.block_lt_of_cell? w _ hw330_0)).trans hw330_0), ((HB.out.cell (World.block_lt_of_cell? w _ hw331_0)).trans hw331_0), ((HB.out.cell (World.block_lt_of_cell? w _ hw331_1)).trans hw331_1), ((HB.out.cell (World.block_lt_of_cell? w _ hw331_2)).trans hw331_2), ((HB.out.cell (World.block_lt_of_cell? w _ hw331_3)).trans hw331_3), ((HB.out.cell (World.block_lt_of_cell? w _ hw331_4)).trans hw331_4), ((HB.out.cell (World.block_lt_of_cell? w _ hw332_0)).trans hw332_0), ((HB.out.cell (World.block_lt_of_cell? w _ hw332_1)).trans hw332_1), ((HB.out.cell (World.block_lt_of_cell? w _ hw332_2)).trans hw332_2), ((HB.out.cell (World.block_lt_of_cell? w _ hw332_3)).trans hw332_3), ((HB.out.cell (World.block_lt_of_cell? w _ hw332_4)).trans hw332_4)⟩ (fun hHeld => ?_); refine with_tabW impl_WalkOk.tab6 impl_WalkOk.bits6 (fun HT_ HW_ => ?_)
      generalize wr.drew = w26 at BK326 HB hx330_0 hx331_0 hx331_1 hx331_2 hx331_3 hx331_4 hx332_0 hx332_1 hx332_2 hx332_3 hx332_4 hHeld ⊢
      refine pu_ 0 22 z20_1 HT_.out ?_
      refine pu_ 1 23 z20_2 HT_.out ?_
      refine tk_ 2 24 z20_3 HT_.out HW_.out hHeld ?_
      refine pu_ 3 25 z20_4 HT_.out ?_
      refine pu_ 4 26 z20_5 HT_.out ?_
      refine one_ (i := 5) (N := some 27) z20_6 rfl rfl (one_of HT_.out (by kernel_rfl)) (by decide) (fun K hK => ?_)
      refine go_ Try.func34 #[.int .i64 (rd l1 x17_2), .int .i64 0, .int .i64 (wrap64 ((l0_1.length : Int) - 1))] ?_
      with_reducible refine (impl_within.calls (rd l1 x17_2) 0 (wrap64 ((l0_1.length : Int) - 1)) true _ A15.out).mono ?_
      rintro e w' ⟨rfl, ⟨nd, rfl⟩⟩
      refine ⟨_, rfl, ?_⟩
      refine hK.out _ _ ⟨ct_ BK326.out 0, ct_ BK326.out 1, ((HB.out.cell (World.block_lt_of_cell? w _ hw330_0)).trans hw330_0), ((HB.out.cell (World.block_lt_of_cell? w _ hw331_0)).trans hw331_0), ((HB.out.cell (World.block_lt_of_cell? w _ hw331_1)).trans hw331_1), ((HB.out.cell (World.block_lt_of_cell? w _ hw331_2)).trans hw331_2), ((HB.out.cell (World.block_lt_of_cell? w _ hw331_3)).trans hw331_3), ((HB.out.cell (World.block_lt_of_cell? w _ hw331_4)).trans hw331_4), ((HB.out.cell (World.block_lt_of_cell? w _ hw332_0)).trans hw332_0), ((HB.out.cell (World.block_lt_of_cell? w _ hw332_1)).trans hw332_1), ((HB.out.cell (World.block_lt_of_cell? w _ hw332_2)).trans hw332_2), ((HB.out.cell (World.block_lt_of_cell? w _ hw332_3)).trans hw332_3), ((HB.out.cell (World.block_lt_of_cell? w _ hw332_4)).trans hw332_4)⟩ (fun hHeld => ?_)
      clear hK K
      refine nm1_ (some 27) ?_
      refine pu_ 6 28 z20_7 HT_.out ?_
      refine pu_ 7 29 z20_8 HT_.out ?_
      refine pu_ 8 30 z20_9 HT_.out ?_
      refine pu_ 9 31 z20_10 HT_.out ?_
      refine pu_ 10 32 z20_11 HT_.out ?_
      refine pu_ 11 33 z20_12 HT_.out ?_
      refine pu_ 13 35 z20_13 HT_.out ?_
      refine pu_ 14 36 z20_14 HT_.out ?_
      refine pu_ 15 37 z20_15 HT_.out ?_
      refine pu_ 16 38 z20_16 HT_.out ?_
      refine pu_ 21 43 z20_17 HT_.out ?_
      refine pu_ 23 45 z20_18 HT_.out ?_
      refine tk_ 12 34 z20_19 HT_.out HW_.out hHeld ?_
      refine tk_ 17 39 z20_20 HT_.out HW_.out hHeld ?_
      refine pu_ 18 40 z20_21 HT_.out ?_
      refine pu_ 19 41 z20_22 HT_.out ?_
      refine tk_ 20 42 z20_23 HT_.out HW_.out hHeld ?_
      refine tk_ 22 44 z20_24 HT_.out HW_.out hHeld ?_
      refine pu_ 24 46 z20_25 HT_.out ?_
      refine pu_ 25 47 z20_26 HT_.out ?_
      refine tk_ 26 48 z20_27 HT_.out HW_.out hHeld ?_
      refine pu_ 27 49 z20_28 HT_.out ?_
      refine pu_ 28 50 z20_29 HT_.out ?_
      refine pu_ 29 51 z20_30 HT_.out ?_
      refine done_ (done_of HT_.out (by kernel_rfl)) ?_
      try go_wp2
      go_roundg k2
      case measure => have := HJ2.out; have := HK2.out; omega
      case rel => exact ⟨(wrap64 (x17_2 + 1)), ns_, H', ⟨by have := HJ2.out; have := HK2.out; omega⟩, ⟨nb_ BK326.out⟩, ⟨ne_ HB.out⟩⟩
end Go.Proofs.Ytgnnimhhkbbfiaa.Print
