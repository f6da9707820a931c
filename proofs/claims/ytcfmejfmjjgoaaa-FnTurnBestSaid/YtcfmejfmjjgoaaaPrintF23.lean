-- Made by this session's own program (wip/patch_print.py, over the kit's print). Lean checks it.
import Derived.Test.YtcfmejfmjjgoaaaPrint0
import Derived.Test.YtcfmejfmjjgoaaaPrintB
import Derived.Test.YtcfmejfmjjgoaaaPrintF14
import Derived.Test.YtcfmejfmjjgoaaaPrintF25
import Derived.Test.YtcfmejfmjjgoaaaPrintF59
namespace Go.Proofs.Ytcfmejfmjjgoaaa.Print
open Go.RowKit Go.Proofs.YtcfmejfmjjgoaaaW.PrintWords Go.Proofs.YtcfmejfmjjgoaaaW.PrintLast Go.Proofs.YtcfmejfmjjgoaaaW.PrintMore Go.Proofs.YtcfmejfmjjgoaaaX
attribute [local go_sem] max2_int min2_int max_two min_two max_three min_three max_four min_four   -- for this text's walks alone
set_option linter.unusedVariables false
set_option linter.unusedSimpArgs false

abbrev z23_0 := bm_ 12 0
abbrev z23_1 := bm_ 12 1
abbrev z23_2 := bm_ 12 3
abbrev z23_3 := bm_ 12 7
abbrev z23_4 := bm_ 12 15
abbrev z23_5 := bm_ 12 31
abbrev z23_6 := bm_ 12 95
abbrev z23_7 := bm_ 12 223
abbrev z23_8 := bm_ 12 479
abbrev z23_9 := bm_ 12 511
abbrev z23_10 := bm_ 12 1023
abbrev z23_11 := bm_ 12 2047
abbrev z23_12 := bm_ 12 4095
/-! ### impl_TurnWalk: function 23 -/
mutual
def impl_TurnWalk.j0 : Nat → List (S31) → List Int → Bool → Int → List (S33) → Option (Int)
  | 0, _, _, _, _, _ => none
  | k + 1, x1, x2, x19, x458000, x458001 => if x19 = true then (some (-1)) else ((impl_Net_cost.f k x458000 x458001 x2).bind fun t460 => (impl_TurnWalk.l0 k x1 x2 t460 1))
def impl_TurnWalk.l0 : Nat → List (S31) → List Int → Int → Int → Option (Int)
  | 0, _, _, _, _ => none
  | k + 1, x1, x2, x7, x8 => if x8 < (x2.length : Int) then (if 0 ≤ (wrap64 (x8 - 1)) then (if (wrap64 (x8 - 1)) < (x2.length : Int) then (if 0 ≤ x8 then ((impl_turning.f k x1 (rd x2 (wrap64 (x8 - 1))) (rd x2 x8)).bind fun t463 => (if t463 < 0 then (some (-1)) else (impl_TurnWalk.l0 k x1 x2 (wrap64 (x7 + t463)) (wrap64 (x8 + 1))))) else (none)) else (none)) else (none)) else (some x7)
end
def impl_TurnWalk.f (k : Nat) (a0_0 : Int) (l0_1 : List (S33)) (l1 : List (S31)) (l2 : List Int) : Option (Int) := (impl_TurnsOk.f k a0_0 l0_1 l1).bind fun t458 => (if t458 = true then ((impl_WalkOk.f k a0_0 l0_1 l2).bind fun t459 => (impl_TurnWalk.j0 k l1 l2 (!t459) a0_0 l0_1)) else (impl_TurnWalk.j0 k l1 l2 true a0_0 l0_1))
def impl_TurnWalk.T7 : Bool × List (List Nat × List Nat) := (true, [([], []), ([], []), ([], []), ([2], [2]), ([1, 3], [1, 3]), ([4], [4]), ([], []), ([], []), ([6, 7], [6, 7]), ([8], [8]), ([0, 5, 9], [0, 5, 9]), ([10, 10, 0, 1, 2, 3, 4, 5, 6, 7, 8, 9, 10], [10])])
def impl_TurnWalk.B7 : List Nat := [0, 0, 0, 4, 14, 30, 0, 0, 192, 448, 1023, 2047]
theorem impl_TurnWalk.tab7 : rtab .any (opsOf Try.f23 7) = impl_TurnWalk.T7 := by kernel_rfl
theorem impl_TurnWalk.bits7 : waitsOk impl_TurnWalk.T7.2 impl_TurnWalk.B7 = true := by kernel_rfl
set_option maxHeartbeats 200000000 in
set_option maxRecDepth 100000 in
theorem impl_TurnWalk.calls (k : Nat) (a0_0 : Int) (A0_1 : Option Addr) (c0_1 : Nat) (l0_1 : List (S33)) (A1 : Option Addr) (c1 : Nat) (l1 : List (S31)) (A2 : Option Addr) (c2 : Nat) (l2 : List Int) (r : Int) (w : World) (hr0_1 : Kd.C k33 w A0_1 l0_1.length l0_1) (hc0_1 : l0_1.length ≤ c0_1) (hr1 : Kd.C k31 w A1 l1.length l1) (hc1 : l1.length ≤ c1) (hr2 : Kd.C (Kd.int .i64) w A2 l2.length l2) (hc2 : l2.length ≤ c2) (h : impl_TurnWalk.f k a0_0 l0_1 l1 l2 = some r) :
    Calls Try.prog 23 #[.agg #[.int .i64 a0_0, .slice A0_1 l0_1.length c0_1], .slice A1 l1.length c1, .slice A2 l2.length c2] w fun e w' => e = .returned (.int .i64 r) ∧ Below w.heap.size w w' := by
  have hu25 := Try.underlying25
  have HR0_1 := Aside0.mk hr0_1
  have HC0_1 := Aside0.mk hc0_1
  clear hr0_1 hc0_1
  have HR1 := Aside0.mk hr1
  have HC1 := Aside0.mk hc1
  clear hr1 hc1
  have HR2 := Aside0.mk hr2
  have HC2 := Aside0.mk hc2
  clear hr2 hc2
  have HB := Aside0.mk (Below.refl w.heap.size w)
  have H : ((impl_TurnsOk.f k a0_0 l0_1 l1).bind fun t458 => (if t458 = true then ((impl_WalkOk.f k a0_0 l0_1 l2).bind fun t459 => (impl_TurnWalk.j0 k l1 l2 (!t459) a0_0 l0_1)) else (impl_TurnWalk.j0 k l1 l2 true a0_0 l0_1))) = some r := h
  clear h
  have HC4 := Aside0.mk H
  clear H
  go_enter Try.func23, Try.ntmps23
  go_upto_region 1 with (first | ((with_reducible refine gate_dst (N := 3) rfl ?_); refine bx_ 3 #[.int .i64 a0_0, .slice A0_1 l0_1.length c0_1] 25 ?_; intro gb457 hg w5 hbox hb; have BK457 := Aside0.mk (hbox); have GW457 := Aside0.mk (zs_ hg (ne_ HB.out)); have GE457 := Aside0.mk (zs_ hg (ne_ HB.out)); replace HB := kB_ HB hb; clear hb hbox hg))
  (try simp only [Act.put, List.setIfInBounds_toArray, List.set_cons_zero, List.set_cons_succ])
  go_cut [19] (fun v19 wc => ∃ (kq : Nat) (x19_3 : Bool), v19 = .bool x19_3 ∧ Aside0 (impl_TurnWalk.j0 kq l1 l2 x19_3 a0_0 l0_1 = some r) ∧ Aside0 (kq ≤ k) ∧ Aside0 (wc.heap[gb457]? = some (.cells #[.int .i64 a0_0, (.slice A0_1 l0_1.length c0_1)] 25 (0, 0))) ∧ Aside0 (Below w.heap.size w wc))
  case first =>
   have H := HC4.out
   clear HC4
   replace H := Option.bind_eq_some_iff.mp H
   obtain ⟨t458, A60, H⟩ := H
   try dsimp only at H
   have A6 := Aside0.mk A60
   clear A60
   by_cases c7 : t458 = true
   rotate_left
   ·replace c7 := Bool.eq_false_iff.mpr c7
    subst c7
    have H1 : (impl_TurnWalk.j0 k l1 l2 true a0_0 l0_1) = some r := by rw [if_neg (show ¬ (false = true) by decide)] at H; exact H
    clear H
    have H := H1
    clear H1
    have H' := Aside0.mk H
    clear H
    obtain ⟨hcz13_0, hcz13_1, hfz13_0, hfz13_1⟩ := cz2_ BK457.out
    go_wp2_with (first | ((with_reducible refine gate_callee (f := 14) rfl ?_); refine gl_ (some 12) Try.func14 #[.agg #[.int .i64 a0_0, .slice A0_1 l0_1.length c0_1], .slice A1 l1.length c1] ?_; (with_reducible refine (impl_TurnsOk.calls k a0_0 _ _ l0_1 _ _ l1 false _ ?side1 ?side2 ?side3 ?side4 A6.out).mono ?_); (case side1 => exact nc_ (Kd.C_below HR0_1.out HB.out)); (case side2 => exact HC0_1.out); (case side3 => exact nc_ (Kd.C_below HR1.out HB.out)); (case side4 => exact HC1.out); rintro e w14 ⟨rfl, hb⟩; refine ⟨_, rfl, ?_⟩; replace BK457 := kb_ BK457 hb; replace HB := kB_ HB hb; (try clear hb); (try clear hb2); (try clear hk); (try clear hi)))
    go_meet
    case rel => exact ⟨_, (true), ns_, H', ⟨by first | omega | exact Nat.le_refl _⟩, ⟨nb_ BK457.out⟩, ⟨ne_ HB.out⟩⟩
   subst c7
   rw [if_pos rfl] at H
   replace H := Option.bind_eq_some_iff.mp H
   obtain ⟨t459, A80, H⟩ := H
   replace H : (impl_TurnWalk.j0 k l1 l2 (!t459) a0_0 l0_1) = some r := H
   have A8 := Aside0.mk A80
   clear A80
   have H' := Aside0.mk H
   clear H
   obtain ⟨hcz9_0, hcz9_1, hfz9_0, hfz9_1⟩ := cz2_ BK457.out
   go_wp2_with (first | ((with_reducible refine gate_callee (f := 14) rfl ?_); refine gl_ (some 12) Try.func14 #[.agg #[.int .i64 a0_0, .slice A0_1 l0_1.length c0_1], .slice A1 l1.length c1] ?_; (with_reducible refine (impl_TurnsOk.calls k a0_0 _ _ l0_1 _ _ l1 true _ ?side1 ?side2 ?side3 ?side4 A6.out).mono ?_); (case side1 => exact nc_ (Kd.C_below HR0_1.out HB.out)); (case side2 => exact HC0_1.out); (case side3 => exact nc_ (Kd.C_below HR1.out HB.out)); (case side4 => exact HC1.out); rintro e w10 ⟨rfl, hb⟩; refine ⟨_, rfl, ?_⟩; replace BK457 := kb_ BK457 hb; replace HB := kB_ HB hb; (try clear hb); (try clear hb2); (try clear hk); (try clear hi); obtain ⟨hcz11_0, hcz11_1, hfz11_0, hfz11_1⟩ := cz2_ BK457.out) | (go_at_call 25; (with_reducible refine (impl_WalkOk.calls k a0_0 _ _ l0_1 _ _ l2 t459 _ ?side1 ?side2 ?side3 ?side4 A8.out).mono ?_); (case side1 => exact nc_ (Kd.C_below HR0_1.out HB.out)); (case side2 => exact HC0_1.out); (case side3 => exact nc_ (Kd.C_below HR2.out HB.out)); (case side4 => exact HC2.out); rintro e w12 ⟨rfl, hb⟩; replace BK457 := kb_ BK457 hb; replace HB := kB_ HB hb; (try clear hb); (try clear hb2); (try clear hk); (try clear hi)))
   go_meet
   case rel => exact ⟨_, (!t459), ns_, H', ⟨by first | omega | exact Nat.le_refl _⟩, ⟨nb_ BK457.out⟩, ⟨ne_ HB.out⟩⟩
  case rest =>
   clear HC4
   try clear c1
   try clear c2
   obtain ⟨kq, x19_3, rfl, HA, HJ3, BK457, HB⟩ := hcut
   cases kq with
   | zero => exact absurd HA.out (by simp [impl_TurnWalk.j0])
   | succ kj3 =>
    have H := HA.out
    clear HA
    simp only [impl_TurnWalk.j0] at H
    by_cases c15 : x19_3 = true
    ·subst c15
     have H1 : (some (-1)) = some r := by rw [if_pos rfl] at H; exact H
     clear H
     have H := H1
     clear H1
     obtain rfl := Option.some.inj H
     go_wp2
     go_ret
     exact ⟨nw_, ne_ HB.out⟩
    replace c15 := Bool.eq_false_iff.mpr c15
    subst c15
    have H1 : ((impl_Net_cost.f kj3 a0_0 l0_1 l2).bind fun t460 => (impl_TurnWalk.l0 kj3 l1 l2 t460 1)) = some r := by rw [if_neg (show ¬ (false = true) by decide)] at H; exact H
    clear H
    have H := H1
    clear H1
    replace H := Option.bind_eq_some_iff.mp H
    obtain ⟨t460, A160, H⟩ := H
    replace H : (impl_TurnWalk.l0 kj3 l1 l2 t460 1) = some r := H
    have A16 := Aside0.mk A160
    clear A160
    have H' := Aside0.mk H
    clear H
    obtain ⟨hcz17_0, hcz17_1, hfz17_0, hfz17_1⟩ := cz2_ BK457.out
    go_wp2_with (first | ((with_reducible refine gate_callee (f := 58) rfl ?_); refine gl_ (some 22) Try.func58 #[.agg #[.int .i64 a0_0, .slice A0_1 l0_1.length c0_1], .slice A2 l2.length c2] ?_; (with_reducible refine (impl_Net_cost.calls kj3 a0_0 _ _ l0_1 _ _ l2 t460 _ ?side1 ?side2 ?side3 ?side4 A16.out).mono ?_); (case side1 => exact nc_ (Kd.C_below HR0_1.out HB.out)); (case side2 => exact HC0_1.out); (case side3 => exact nc_ (Kd.C_below HR2.out HB.out)); (case side4 => exact HC2.out); rintro e w18 ⟨rfl, hb⟩; refine ⟨_, rfl, ?_⟩; replace BK457 := kb_ BK457 hb; replace HB := kB_ HB hb; (try clear hb); (try clear hb2); (try clear hk); (try clear hi)))
    go_loopg [7, 8] kj3 (fun kq v7 v8 w' => ∃ (x7_2 : Int) (x8_2 : Int), v7 = .int .i64 x7_2 ∧ v8 = .int .i64 x8_2 ∧ Aside0 (impl_TurnWalk.l0 kq l1 l2 x7_2 x8_2 = some r) ∧ Aside0 (kq ≤ kj3) ∧ Aside0 (w'.heap[gb457]? = some (.cells #[.int .i64 a0_0, (.slice A0_1 l0_1.length c0_1)] 25 (0, 0))) ∧ Aside0 (Below w.heap.size w w'))
    case atStart => exact ⟨(t460), (1), ns_, ns_, H', ⟨Nat.le_refl _⟩, ⟨nb_ BK457.out⟩, ⟨ne_ HB.out⟩⟩
    case round =>
     clear H'
     try clear c1
     try clear c2
     try clear c15
     try clear hcz17_0
     try clear hcz17_1
     try clear hfz17_0
     try clear hfz17_1
     obtain ⟨x7_2, x8_2, rfl, rfl, HA, HK2, BK457, HB⟩ := hrel
     cases gk with
     | zero => exact absurd HA.out (by simp [impl_TurnWalk.l0])
     | succ k2 =>
      have H := HA.out
      clear HA
      simp only [impl_TurnWalk.l0] at H
      by_cases c19 : x8_2 < (l2.length : Int)
      rotate_left
      ·rw [if_neg c19] at H
       have c19b0 : decide (x8_2 < (l2.length : Int)) = false := decide_eq_false c19
       clear c19
       obtain rfl := Option.some.inj H
       go_wp2
       go_ret
       exact ⟨nw_, ne_ HB.out⟩

      rw [if_pos c19] at H
      have c19b0 : decide (x8_2 < (l2.length : Int)) = true := decide_eq_true c19
      clear c19
      obtain ⟨ji20, hji20⟩ : ∃ j_ : Int, (wrap64 (x8_2 - 1)) = j_ := ⟨_, rfl⟩
      replace H : (if 0 ≤ (ji20) then (if (ji20) < (l2.length : Int) then (if 0 ≤ x8_2 then ((impl_turning.f k2 l1 (rd l2 (ji20)) (rd l2 x8_2)).bind fun t463 => (if t463 < 0 then (some (-1)) else (impl_TurnWalk.l0 k2 l1 l2 (wrap64 (x7_2 + t463)) (wrap64 (x8_2 + 1))))) else (none)) else (none)) else (none)) = some r := by first | (rw [hji20] at H; exact H) | (simp only [hji20] at H ⊢; exact H)
      have hji20w : (IntKind.i64.wrap (x8_2 - 1)) = ji20 := (i64_w _).trans hji20
      by_cases c21 : 0 ≤ (ji20)
      rotate_left
      ·rw [if_neg c21] at H
       exact absurd H (by simp)
      rw [if_pos c21] at H
      have c21b0 : decide (0 ≤ (ji20)) = true := decide_eq_true c21
      clear c21
      by_cases c22 : (ji20) < (l2.length : Int)
      rotate_left
      ·rw [if_neg c22] at H
       exact absurd H (by simp)
      rw [if_pos c22] at H
      have c22b0 : decide ((ji20) < (l2.length : Int)) = true := decide_eq_true c22
      clear c22
      by_cases c23 : 0 ≤ x8_2
      rotate_left
      ·rw [if_neg c23] at H
       exact absurd H (by simp)
      rw [if_pos c23] at H
      have c23b0 : decide (0 ≤ x8_2) = true := decide_eq_true c23
      clear c23
      replace H := Option.bind_eq_some_iff.mp H
      obtain ⟨t463, A240, H⟩ := H
      replace H : (if t463 < 0 then (some (-1)) else (impl_TurnWalk.l0 k2 l1 l2 (wrap64 (x7_2 + t463)) (wrap64 (x8_2 + 1)))) = some r := H
      have A24 := Aside0.mk A240
      clear A240
      by_cases c25 : t463 < 0
      ·rw [if_pos c25] at H
       have c25b0 : decide (t463 < 0) = true := decide_eq_true c25
       clear c25
       obtain rfl := Option.some.inj H
       try go_wp2
       replace BK457 := Aside0.mk (blk_drew BK457.out)
       replace HB := Aside0.mk (below_drew1 HB.out)
       have p461 : 0 ≤ ((ji20) : Int) := of_decide_eq_true nx_
       have q461 : (ji20) < (l2.length : Int) := of_decide_eq_true nx_
       obtain ⟨ad461, e461, hx461_0⟩ := Kd.at_int HR2.out (ji20) p461 q461
       have hw461_0 := hx461_0
       cases e461
       replace hx461_0 := hb_ HB.out hx461_0
       replace p461 := eq_true p461
       replace q461 := eq_true q461
       have p462 : 0 ≤ (x8_2 : Int) := of_decide_eq_true nx_
       have q462 : x8_2 < (l2.length : Int) := of_decide_eq_true nx_
       obtain ⟨ad462, e462, hx462_0⟩ := Kd.at_int HR2.out x8_2 p462 q462
       have hw462_0 := hx462_0
       obtain rfl : ad461 = ad462 := (by injection e462)
       replace hx462_0 := hb_ HB.out hx462_0
       replace p462 := eq_true p462
       replace q462 := eq_true q462
       refine start_ (n := 12) (S := fun w' => w'.cell? (ad461.add ((ji20)).toNat) = some (.int .i64 (rd l2 (ji20))) ∧ w'.cell? (ad461.add (x8_2).toNat) = some (.int .i64 (rd l2 x8_2))) (ds := []) z23_0 (by kernel_rfl) rfl rfl ⟨((HB.out.cell (World.block_lt_of_cell? w _ hw461_0)).trans hw461_0), ((HB.out.cell (World.block_lt_of_cell? w _ hw462_0)).trans hw462_0)⟩ (fun hHeld => ?_); refine with_tabW impl_TurnWalk.tab7 impl_TurnWalk.bits7 (fun HT_ HW_ => ?_)
       generalize wr.drew = w26 at BK457 HB hx461_0 hx462_0 hHeld ⊢
       refine pu_ 0 29 z23_1 HT_.out ?_
       refine pu_ 1 30 z23_2 HT_.out ?_
       refine pu_ 2 31 z23_3 HT_.out ?_
       refine pu_ 3 32 z23_4 HT_.out ?_
       refine pu_ 4 33 z23_5 HT_.out ?_
       refine pu_ 6 35 z23_6 HT_.out ?_
       refine pu_ 7 36 z23_7 HT_.out ?_
       refine pu_ 8 37 z23_8 HT_.out ?_
       refine tk_ 5 34 z23_9 HT_.out HW_.out hHeld ?_
       refine tk_ 9 38 z23_10 HT_.out HW_.out hHeld ?_
       refine one_ (i := 10) (N := some 39) z23_11 rfl rfl (one_of HT_.out (by kernel_rfl)) (by decide) (fun K hK => ?_)
       refine goes_ Try.func59 (by kernel_rfl) rfl #[.slice A1 l1.length c1, .int .i64 (rd l2 (ji20)), .int .i64 (rd l2 x8_2)] (by rfl) rfl rfl (by (try simp only [List.map_toArray, List.map_cons, List.map_nil]); first | done | (simp only [hji20]; rfl) | rfl | (simp only [List.length_drop, List.length_take]; rfl)) ?_
       with_reducible refine (impl_turning.calls k2 _ _ l1 (rd l2 (ji20)) (rd l2 x8_2) t463 _ ?side1 ?side2 A24.out).mono ?_
       (case side1 => exact nc_ (Kd.C_below HR1.out HB.out))
       (case side2 => exact HC1.out)
       rintro e w27 ⟨rfl, hb⟩
       refine ⟨_, rfl, ?_⟩
       replace BK457 := kb_ BK457 hb
       replace HB := kB_ HB hb
       (try clear hb)
       (try clear hb2)
       (try clear hk)
       (try clear hi)
       refine hK.out _ _ ⟨((HB.out.cell (World.block_lt_of_cell? w _ hw461_0)).trans hw461_0), ((HB.out.cell (World.block_lt_of_cell? w _ hw462_0)).trans hw462_0)⟩ (fun hHeld => ?_)
       clear hK K
       refine nm1_ (some 39) ?_
       refine pu_ 11 9 z23_12 HT_.out ?_
       refine done_ (done_of HT_.out (by kernel_rfl)) ?_
       try go_wp2
       go_ret
       exact ⟨by first | rfl | (simp [errW_none, errW_some] <;> rfl) | (simp only [← hji20]; first | rfl | (simp [errW_none, errW_some] <;> rfl)) | (simp [*, errW_none, errW_some] <;> rfl), ne_ HB.out⟩
      rw [if_neg c25] at H
      have c25b0 : decide (t463 < 0) = false := decide_eq_false c25
      clear c25
      have H' := Aside0.mk H
      clear H
      try go_wp2
      replace BK457 := Aside0.mk (blk_drew BK457.out)
      replace HB := Aside0.mk (below_drew1 HB.out)
      have p461 : 0 ≤ ((ji20) : Int) := of_decide_eq_true nx_
      have q461 : (ji20) < (l2.length : Int) := of_decide_eq_true nx_
      obtain ⟨ad461, e461, hx461_0⟩ := Kd.at_int HR2.out (ji20) p461 q461
      have hw461_0 := hx461_0
      cases e461
      replace hx461_0 := hb_ HB.out hx461_0
      replace p461 := eq_true p461
      replace q461 := eq_true q461
      have p462 : 0 ≤ (x8_2 : Int) := of_decide_eq_true nx_
      have q462 : x8_2 < (l2.length : Int) := of_decide_eq_true nx_
      obtain ⟨ad462, e462, hx462_0⟩ := Kd.at_int HR2.out x8_2 p462 q462
      have hw462_0 := hx462_0
      obtain rfl : ad461 = ad462 := (by injection e462)
      replace hx462_0 := hb_ HB.out hx462_0
      replace p462 := eq_true p462
      replace q462 := eq_true q462
      refine start_ (n := 12) (S := fun w' => w'.cell? (ad461.add ((ji20)).toNat) = some (.int .i64 (rd l2 (ji20))) ∧ w'.cell? (ad461.add (x8_2).toNat) = some (.int .i64 (rd l2 x8_2))) (ds := []) z23_0 (by kernel_rfl) rfl rfl ⟨((HB.out.cell (World.block_lt_of_cell? w _ hw461_0)).trans hw461_0), ((HB.out.cell (World.block_lt_of_cell? w _ hw462_0)).trans hw462_0)⟩ (fun hHeld => ?_); refine with_tabW impl_TurnWalk.tab7 impl_TurnWalk.bits7 (fun HT_ HW_ => ?_)
      generalize wr.drew = w28 at BK457 HB hx461_0 hx462_0 hHeld ⊢
      refine pu_ 0 29 z23_1 HT_.out ?_
      refine pu_ 1 30 z23_2 HT_.out ?_
      refine pu_ 2 31 z23_3 HT_.out ?_
      refine pu_ 3 32 z23_4 HT_.out ?_
      refine pu_ 4 33 z23_5 HT_.out ?_
      refine pu_ 6 35 z23_6 HT_.out ?_
      refine pu_ 7 36 z23_7 HT_.out ?_
      refine pu_ 8 37 z23_8 HT_.out ?_
      refine tk_ 5 34 z23_9 HT_.out HW_.out hHeld ?_
      refine tk_ 9 38 z23_10 HT_.out HW_.out hHeld ?_
      refine one_ (i := 10) (N := some 39) z23_11 rfl rfl (one_of HT_.out (by kernel_rfl)) (by decide) (fun K hK => ?_)
      refine goes_ Try.func59 (by kernel_rfl) rfl #[.slice A1 l1.length c1, .int .i64 (rd l2 (ji20)), .int .i64 (rd l2 x8_2)] (by rfl) rfl rfl (by (try simp only [List.map_toArray, List.map_cons, List.map_nil]); first | done | (simp only [hji20]; rfl) | rfl | (simp only [List.length_drop, List.length_take]; rfl)) ?_
      with_reducible refine (impl_turning.calls k2 _ _ l1 (rd l2 (ji20)) (rd l2 x8_2) t463 _ ?side1 ?side2 A24.out).mono ?_
      (case side1 => exact nc_ (Kd.C_below HR1.out HB.out))
      (case side2 => exact HC1.out)
      rintro e w29 ⟨rfl, hb⟩
      refine ⟨_, rfl, ?_⟩
      replace BK457 := kb_ BK457 hb
      replace HB := kB_ HB hb
      (try clear hb)
      (try clear hb2)
      (try clear hk)
      (try clear hi)
      refine hK.out _ _ ⟨((HB.out.cell (World.block_lt_of_cell? w _ hw461_0)).trans hw461_0), ((HB.out.cell (World.block_lt_of_cell? w _ hw462_0)).trans hw462_0)⟩ (fun hHeld => ?_)
      clear hK K
      refine nm1_ (some 39) ?_
      refine pu_ 11 9 z23_12 HT_.out ?_
      refine done_ (done_of HT_.out (by kernel_rfl)) ?_
      try go_wp2
      go_roundg k2
      case measure => have := HJ3.out; have := HK2.out; omega
      case rel => exact ⟨(wrap64 (x7_2 + t463)), (wrap64 (x8_2 + 1)), ns_, ns_, H', ⟨by have := HJ3.out; have := HK2.out; omega⟩, ⟨nb_ BK457.out⟩, ⟨ne_ HB.out⟩⟩
end Go.Proofs.Ytcfmejfmjjgoaaa.Print
