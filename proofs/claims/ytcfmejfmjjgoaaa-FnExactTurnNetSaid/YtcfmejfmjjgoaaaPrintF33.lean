-- Made by this session's own program (wip/patch_print.py, over the kit's print). Lean checks it.
import Derived.Test.YtcfmejfmjjgoaaaPrint0
import Derived.Test.YtcfmejfmjjgoaaaPrintB
import Derived.Test.YtcfmejfmjjgoaaaPrintF50
import Derived.Test.YtcfmejfmjjgoaaaPrintF51
namespace Go.Proofs.Ytcfmejfmjjgoaaa.Print
open Go.RowKit Go.Proofs.YtcfmejfmjjgoaaaW.PrintWords Go.Proofs.YtcfmejfmjjgoaaaW.PrintLast Go.Proofs.YtcfmejfmjjgoaaaW.PrintMore Go.Proofs.YtcfmejfmjjgoaaaX
attribute [local go_sem] max2_int min2_int max_two min_two max_three min_three max_four min_four   -- for this text's walks alone
set_option linter.unusedVariables false
set_option linter.unusedSimpArgs false

abbrev z33_0 := bm_ 22 0
abbrev z33_1 := bm_ 22 1
abbrev z33_2 := bm_ 22 5
abbrev z33_3 := bm_ 22 69
abbrev z33_4 := bm_ 22 325
abbrev z33_5 := bm_ 22 327
abbrev z33_6 := bm_ 22 335
abbrev z33_7 := bm_ 22 351
abbrev z33_8 := bm_ 22 383
abbrev z33_9 := bm_ 22 511
abbrev z33_10 := bm_ 22 1023
abbrev z33_11 := bm_ 22 2047
abbrev z33_12 := bm_ 22 4095
abbrev z33_13 := bm_ 22 8191
abbrev z33_14 := bm_ 22 16383
abbrev z33_15 := bm_ 22 32767
abbrev z33_16 := bm_ 22 65535
abbrev z33_17 := bm_ 22 131071
abbrev z33_18 := bm_ 22 262143
abbrev z33_19 := bm_ 22 524287
abbrev z33_20 := bm_ 22 1048575
abbrev z33_21 := bm_ 22 2097151
abbrev z33_22 := bm_ 22 4194303
/-! ### spec_TurnNet: function 33 -/
mutual
def spec_TurnNet.j0 : Nat → List (S31) → Bool → Int → List (S33) → Option (Int × (List (S33)) × Bool)
  | 0, _, _, _, _ => none
  | k + 1, x1, x25, x707000, x707001 => if x25 = true then (some (0, ([] : List (S33)), false)) else (spec_TurnNet.l0 k x1 0 x707000 x707001 (x707001.length : Int) ([] : List (S33)))
def spec_TurnNet.l0 : Nat → List (S31) → Int → Int → List (S33) → Int → List (S33) → Option (Int × (List (S33)) × Bool)
  | 0, _, _, _, _, _, _ => none
  | k + 1, x1, x7, x707000, x707001, x712000, x712001 => if x7 < (x707001.length : Int) then (spec_TurnNet.l1 k x1 x7 0 x707000 x707001 x712000 x712001) else ((spec_l1Ok.f k x712000 x712001).bind fun t712 => (if t712 = true then (some (x712000, x712001, true)) else (some (0, ([] : List (S33)), false))))
def spec_TurnNet.l1 : Nat → List (S31) → Int → Int → Int → List (S33) → Int → List (S33) → Option (Int × (List (S33)) × Bool)
  | 0, _, _, _, _, _, _, _ => none
  | k + 1, x1, x7, x8, x707000, x707001, x712000, x712001 => if x8 < (x707001.length : Int) then ((spec_l4Cost.f k x1 x7 x8).bind fun t713 => (if 0 ≤ x7 then (if x7 < (x707001.length : Int) then (if 0 ≤ x8 then (if ((rd_T33 x707001 x7).f1) = ((rd_T33 x707001 x8).f0) then (if t713 ≥ 0 then (if x7 = x8 then (spec_TurnNet.l1 k x1 x7 (wrap64 (x8 + 1)) x707000 x707001 x712000 x712001) else (if x712001.length < 3518437208883 then (spec_TurnNet.l1 k x1 x7 (wrap64 (x8 + 1)) x707000 x707001 x712000 (x712001 ++ [(⟨x7, x8, wrap64 (t713 + ((rd_T33 x707001 x8).f2)), 0, 9⟩ : S33)])) else (none))) else (spec_TurnNet.l1 k x1 x7 (wrap64 (x8 + 1)) x707000 x707001 x712000 x712001)) else (spec_TurnNet.l1 k x1 x7 (wrap64 (x8 + 1)) x707000 x707001 x712000 x712001)) else (none)) else (none)) else (none))) else (spec_TurnNet.l0 k x1 (wrap64 (x7 + 1)) x707000 x707001 x712000 x712001)
end
def spec_TurnNet.f (k : Nat) (a0_0 : Int) (l0_1 : List (S33)) (l1 : List (S31)) : Option (Int × (List (S33)) × Bool) := (spec_l1Ok.f k a0_0 l0_1).bind fun t708 => (if t708 = true then ((spec_l4Ok.f k a0_0 l0_1 l1).bind fun t709 => (if t709 = true then ((spec_l1In.f (l0_1.length : Int) 1 8).bind fun t710 => (spec_TurnNet.j0 k l1 (!t710) a0_0 l0_1)) else (spec_TurnNet.j0 k l1 true a0_0 l0_1))) else (spec_TurnNet.j0 k l1 true a0_0 l0_1))
def spec_TurnNet.T11 : Bool × List (List Nat × List Nat) := (true, [([], []), ([0], [0]), ([], []), ([1, 2], [1, 2]), ([3], [3]), ([4], [4]), ([], []), ([6], [6]), ([], []), ([7, 8], [7, 8]), ([9], [9]), ([10], [10]), ([5, 11], [5, 11]), ([12], [12]), ([13], [13]), ([14, 13], [13, 14]), ([13, 15], [13, 15]), ([16, 13], [16]), ([17], [17]), ([17], [17]), ([18, 19, 17], [17, 18, 19]), ([17, 20], [17, 20])])
def spec_TurnNet.B11 : List Nat := [0, 1, 0, 7, 15, 31, 0, 64, 0, 448, 960, 1984, 4095, 8191, 16383, 32767, 65535, 131071, 262143, 262143, 1048575, 2097151]
theorem spec_TurnNet.tab11 : rtab .any (opsOf Try.f33 11) = spec_TurnNet.T11 := by kernel_rfl
theorem spec_TurnNet.bits11 : waitsOk spec_TurnNet.T11.2 spec_TurnNet.B11 = true := by kernel_rfl
def spec_TurnNet.T12 : Bool × List (List Nat × List Nat) := (true, [([], []), ([0], [0]), ([], []), ([], []), ([], []), ([], []), ([5], [5]), ([], []), ([6, 7], [6, 7]), ([8], [8]), ([9], [9]), ([4, 10], [4, 10]), ([2, 3, 11], [2, 3, 11]), ([12], [12]), ([1, 13], [1, 13]), ([0, 1, 2, 3, 4, 5, 6, 7, 8, 9, 10, 11, 12, 13, 14], []), ([15, 14, 14, 0, 1, 2, 3, 4, 5, 6, 7, 8, 9, 10, 11, 12, 13, 14], [14, 15])])
def spec_TurnNet.B12 : List Nat := [0, 1, 0, 0, 0, 0, 32, 0, 224, 480, 992, 2032, 4092, 8188, 16383, 32767, 65535]
theorem spec_TurnNet.tab12 : rtab .any (opsOf Try.f33 12) = spec_TurnNet.T12 := by kernel_rfl
theorem spec_TurnNet.bits12 : waitsOk spec_TurnNet.T12.2 spec_TurnNet.B12 = true := by kernel_rfl
set_option maxHeartbeats 200000000 in
set_option maxRecDepth 100000 in
theorem spec_TurnNet.calls (k : Nat) (a0_0 : Int) (A0_1 : Option Addr) (c0_1 : Nat) (l0_1 : List (S33)) (A1 : Option Addr) (c1 : Nat) (l1 : List (S31)) (r1 : Int) (r2 : List (S33)) (r3 : Bool) (w : World) (hr0_1 : Kd.C k33 w A0_1 l0_1.length l0_1) (hc0_1 : l0_1.length ≤ c0_1) (hr1 : Kd.C k31 w A1 l1.length l1) (hc1 : l1.length ≤ c1) (h : spec_TurnNet.f k a0_0 l0_1 l1 = some (r1, r2, r3)) :
    Calls Try.prog 33 #[.agg #[.int .i64 a0_0, .slice A0_1 l0_1.length c0_1], .slice A1 l1.length c1] w fun e w' => ∃ v1_ : Value, e = .returned (.tuple #[.agg #[.int .i64 r1, v1_], .bool r3]) ∧ Kd.R k33 33 w' w.heap.size (fun _ => True) v1_ r2 ∧ Below w.heap.size w w' := by
  have hu25 := Try.underlying25
  have hu33 := Try.underlying33
  have HR0_1 := Aside0.mk hr0_1
  have HC0_1 := Aside0.mk hc0_1
  clear hr0_1 hc0_1
  have HR1 := Aside0.mk hr1
  have HC1 := Aside0.mk hc1
  clear hr1 hc1
  have HB := Aside0.mk (Below.refl w.heap.size w)
  have H : ((spec_l1Ok.f k a0_0 l0_1).bind fun t708 => (if t708 = true then ((spec_l4Ok.f k a0_0 l0_1 l1).bind fun t709 => (if t709 = true then ((spec_l1In.f (l0_1.length : Int) 1 8).bind fun t710 => (spec_TurnNet.j0 k l1 (!t710) a0_0 l0_1)) else (spec_TurnNet.j0 k l1 true a0_0 l0_1))) else (spec_TurnNet.j0 k l1 true a0_0 l0_1))) = some (r1, r2, r3) := h
  clear h
  have HC3 := Aside0.mk H
  clear H
  go_enter Try.func33, Try.ntmps33
  go_upto_region 1 with (first | ((with_reducible refine gate_dst (N := 2) rfl ?_); (try (refine gate_guard (by rfl) ?_; dsimp only)); refine bx_ 2 #[.int .i64 a0_0, .slice A0_1 l0_1.length c0_1] 25 ?_; intro gb706 hg w4 hbox hb; have BK706 := Aside0.mk (hbox); have GW706 := Aside0.mk (zs_ hg (ne_ HB.out)); have GE706 := Aside0.mk (zs_ hg (ne_ HB.out)); replace HB := kB_ HB hb; clear hb hbox hg) | ((with_reducible refine gate_dst (N := 4) rfl ?_); (try (refine gate_guard (by rfl) ?_; dsimp only)); refine bx_ 4 #[.int .i64 0, .slice none 0 0] 25 ?_; intro gb707 hg w5 hbox hb; have BK707 := Aside0.mk (hbox); have GW707 := Aside0.mk (zs_ hg (ne_ HB.out)); have GE707 := Aside0.mk (zs_ hg (ne_ HB.out)); have NB706_707 := Aside0.mk (nl_ BK706.out hg); have NB707_706 := Aside0.mk (nm_ BK706.out hg); replace BK706 := kb_ BK706 hb; replace HB := kB_ HB hb; clear hb hbox hg))
  (try simp only [Act.put, List.setIfInBounds_toArray, List.set_cons_zero, List.set_cons_succ])
  go_cut [25] (fun v25 wc => ∃ (kq : Nat) (x25_2 : Bool), v25 = .bool x25_2 ∧ Aside0 (spec_TurnNet.j0 kq l1 x25_2 a0_0 l0_1 = some (r1, r2, r3)) ∧ Aside0 (kq ≤ k) ∧ Aside0 (wc.heap[gb706]? = some (.cells #[.int .i64 a0_0, (.slice A0_1 l0_1.length c0_1)] 25 (0, 0))) ∧ Aside0 (wc.heap[gb707]? = some (.cells #[.int .i64 0, (.slice none 0 0)] 25 (0, 0))) ∧ Aside0 (Below w.heap.size w wc))
  case first =>
   have H := HC3.out
   clear HC3
   replace H := Option.bind_eq_some_iff.mp H
   obtain ⟨t708, A60, H⟩ := H
   try dsimp only at H
   have A6 := Aside0.mk A60
   clear A60
   by_cases c7 : t708 = true
   rotate_left
   ·replace c7 := Bool.eq_false_iff.mpr c7
    subst c7
    have H1 : (spec_TurnNet.j0 k l1 true a0_0 l0_1) = some (r1, r2, r3) := by rw [if_neg (show ¬ (false = true) by decide)] at H; exact H
    clear H
    have H := H1
    clear H1
    have H' := Aside0.mk H
    clear H
    have hnb22 := NB706_707.out
    have hnc22 := NB707_706.out
    obtain ⟨hcz23_0, hcz23_1, hfz23_0, hfz23_1⟩ := cz2_ BK706.out
    go_wp2_with (first | ((with_reducible refine gate_callee (f := 50) rfl ?_); refine gl_ (some 11) Try.func50 #[.agg #[.int .i64 a0_0, .slice A0_1 l0_1.length c0_1]] ?_; (with_reducible refine (spec_l1Ok.calls k a0_0 _ _ l0_1 false _ ?side1 ?side2 A6.out).mono ?_); (case side1 => exact nc_ (Kd.C_below HR0_1.out HB.out)); (case side2 => exact HC0_1.out); rintro e w24 ⟨rfl, hb⟩; refine ⟨_, rfl, ?_⟩; replace BK706 := kb_ BK706 hb; replace BK707 := kb_ BK707 hb; replace HB := kB_ HB hb; (try clear hb); (try clear hb2); (try clear hk); (try clear hi)))
    go_meet
    case rel => exact ⟨_, (true), ns_, H', ⟨by first | omega | exact Nat.le_refl _⟩, ⟨nb_ BK706.out⟩, ⟨nb_ BK707.out⟩, ⟨ne_ HB.out⟩⟩
   subst c7
   rw [if_pos rfl] at H
   replace H := Option.bind_eq_some_iff.mp H
   obtain ⟨t709, A80, H⟩ := H
   try dsimp only at H
   have A8 := Aside0.mk A80
   clear A80
   by_cases c9 : t709 = true
   rotate_left
   ·replace c9 := Bool.eq_false_iff.mpr c9
    subst c9
    have H1 : (spec_TurnNet.j0 k l1 true a0_0 l0_1) = some (r1, r2, r3) := by rw [if_neg (show ¬ (false = true) by decide)] at H; exact H
    clear H
    have H := H1
    clear H1
    have H' := Aside0.mk H
    clear H
    have hnb17 := NB706_707.out
    have hnc17 := NB707_706.out
    obtain ⟨hcz18_0, hcz18_1, hfz18_0, hfz18_1⟩ := cz2_ BK706.out
    go_wp2_with (first | ((with_reducible refine gate_callee (f := 50) rfl ?_); refine gl_ (some 11) Try.func50 #[.agg #[.int .i64 a0_0, .slice A0_1 l0_1.length c0_1]] ?_; (with_reducible refine (spec_l1Ok.calls k a0_0 _ _ l0_1 true _ ?side1 ?side2 A6.out).mono ?_); (case side1 => exact nc_ (Kd.C_below HR0_1.out HB.out)); (case side2 => exact HC0_1.out); rintro e w19 ⟨rfl, hb⟩; refine ⟨_, rfl, ?_⟩; replace BK706 := kb_ BK706 hb; replace BK707 := kb_ BK707 hb; replace HB := kB_ HB hb; (try clear hb); (try clear hb2); (try clear hk); (try clear hi); obtain ⟨hcz20_0, hcz20_1, hfz20_0, hfz20_1⟩ := cz2_ BK706.out) | (go_at_call 51; (with_reducible refine (spec_l4Ok.calls k a0_0 _ _ l0_1 _ _ l1 false _ ?side1 ?side2 ?side3 ?side4 A8.out).mono ?_); (case side1 => exact nc_ (Kd.C_below HR0_1.out HB.out)); (case side2 => exact HC0_1.out); (case side3 => exact nc_ (Kd.C_below HR1.out HB.out)); (case side4 => exact HC1.out); rintro e w21 ⟨rfl, hb⟩; replace BK706 := kb_ BK706 hb; replace BK707 := kb_ BK707 hb; replace HB := kB_ HB hb; (try clear hb); (try clear hb2); (try clear hk); (try clear hi)))
    go_meet
    case rel => exact ⟨_, (true), ns_, H', ⟨by first | omega | exact Nat.le_refl _⟩, ⟨nb_ BK706.out⟩, ⟨nb_ BK707.out⟩, ⟨ne_ HB.out⟩⟩
   subst c9
   rw [if_pos rfl] at H
   replace H := Option.bind_eq_some_iff.mp H
   obtain ⟨t710, A100, H⟩ := H
   replace H : (spec_TurnNet.j0 k l1 (!t710) a0_0 l0_1) = some (r1, r2, r3) := H
   have A10 := Aside0.mk A100
   clear A100
   have H' := Aside0.mk H
   clear H
   have hnb11 := NB706_707.out
   have hnc11 := NB707_706.out
   obtain ⟨hcz12_0, hcz12_1, hfz12_0, hfz12_1⟩ := cz2_ BK706.out
   go_wp2_with (first | ((with_reducible refine gate_callee (f := 50) rfl ?_); refine gl_ (some 11) Try.func50 #[.agg #[.int .i64 a0_0, .slice A0_1 l0_1.length c0_1]] ?_; (with_reducible refine (spec_l1Ok.calls k a0_0 _ _ l0_1 true _ ?side1 ?side2 A6.out).mono ?_); (case side1 => exact nc_ (Kd.C_below HR0_1.out HB.out)); (case side2 => exact HC0_1.out); rintro e w13 ⟨rfl, hb⟩; refine ⟨_, rfl, ?_⟩; replace BK706 := kb_ BK706 hb; replace BK707 := kb_ BK707 hb; replace HB := kB_ HB hb; (try clear hb); (try clear hb2); (try clear hk); (try clear hi); obtain ⟨hcz14_0, hcz14_1, hfz14_0, hfz14_1⟩ := cz2_ BK706.out) | (go_at_call 51; (with_reducible refine (spec_l4Ok.calls k a0_0 _ _ l0_1 _ _ l1 true _ ?side1 ?side2 ?side3 ?side4 A8.out).mono ?_); (case side1 => exact nc_ (Kd.C_below HR0_1.out HB.out)); (case side2 => exact HC0_1.out); (case side3 => exact nc_ (Kd.C_below HR1.out HB.out)); (case side4 => exact HC1.out); rintro e w15 ⟨rfl, hb⟩; replace BK706 := kb_ BK706 hb; replace BK707 := kb_ BK707 hb; replace HB := kB_ HB hb; (try clear hb); (try clear hb2); (try clear hk); (try clear hi); obtain ⟨hcz16_0, hcz16_1, hfz16_0, hfz16_1⟩ := cz2_ BK706.out) | (go_at_call 66; (with_reducible refine (spec_l1In.calls (l0_1.length : Int) 1 8 t710 _ A10.out).mono ?_); rintro e w' ⟨rfl, ⟨nd, rfl⟩⟩))
   go_meet
   case rel => exact ⟨_, (!t710), ns_, H', ⟨by first | omega | exact Nat.le_refl _⟩, ⟨nb_ BK706.out⟩, ⟨nb_ BK707.out⟩, ⟨ne_ HB.out⟩⟩
  case rest =>
   clear HC3
   try clear c1
   obtain ⟨kq, x25_2, rfl, HA, HJ2, BK706, BK707, HB⟩ := hcut
   cases kq with
   | zero => exact absurd HA.out (by simp [spec_TurnNet.j0])
   | succ kj2 =>
    have H := HA.out
    clear HA
    simp only [spec_TurnNet.j0] at H
    by_cases c25 : x25_2 = true
    ·subst c25
     have H1 : (some (0, ([] : List (S33)), false)) = some (r1, r2, r3) := by rw [if_pos rfl] at H; exact H
     clear H
     have H := H1
     clear H1
     simp only [Option.some.injEq, Prod.mk.injEq] at H
     obtain ⟨rfl, rfl, rfl⟩ := H
     have hnb26 := NB707_706.out
     have hnc26 := NB706_707.out
     obtain ⟨hcz27_0, hcz27_1, hfz27_0, hfz27_1⟩ := cz2_ BK707.out
     go_wp2
     refine bodyPost_ret (results_ct rfl _ _ gb707 25 #[.int .i64 0, .slice none 0 0] (0, 0) _ rfl (np_ BK707.out) Try.underlying25 rfl (by kernel_rfl)) rfl ?_
     exact ⟨_, nw_, by first | exact Kd.R_nil _ _ _ _ _ | exact Kd.N_nil _ _ _ _ _ | exact Kd.V_nil _ _ _ _ _ | exact Kd.Q_nil _ _ _ _ _ | exact Kd.S_nil _ _ _ _ _, ne_ HB.out⟩
    replace c25 := Bool.eq_false_iff.mpr c25
    subst c25
    have H1 : (spec_TurnNet.l0 kj2 l1 0 a0_0 l0_1 (l0_1.length : Int) ([] : List (S33))) = some (r1, r2, r3) := by rw [if_neg (show ¬ (false = true) by decide)] at H; exact H
    clear H
    have H := H1
    clear H1
    have H' := Aside0.mk H
    clear H
    have hnb28 := NB706_707.out
    have hnc28 := NB707_706.out
    obtain ⟨hcz29_0, hcz29_1, hfz29_0, hfz29_1⟩ := cz2_ BK706.out
    go_wp2_with (first | ((with_reducible refine gate_dst (N := 6) rfl ?_); (try (refine gate_guard (by rfl) ?_; dsimp only)); refine bx_ 6 #[.int .i64 0, .slice none 0 0] 25 ?_; intro gb711 hg w30 hbox hb; have BK711 := Aside0.mk (hbox); have GW711 := Aside0.mk (zs_ hg (ne_ HB.out)); have GE711 := Aside0.mk (zs_ hg (ne_ HB.out)); have NB706_711 := Aside0.mk (nl_ BK706.out hg); have NB711_706 := Aside0.mk (nm_ BK706.out hg); have NB707_711 := Aside0.mk (nl_ BK707.out hg); have NB711_707 := Aside0.mk (nm_ BK707.out hg); replace BK706 := kb_ BK706 hb; replace BK707 := kb_ BK707 hb; replace HB := kB_ HB hb; clear hb hbox hg; have hnb31 := NB711_706.out; have hnc31 := NB706_711.out; have hnb32 := NB711_707.out; have hnc32 := NB707_711.out; obtain ⟨hcz33_0, hcz33_1, hfz33_0, hfz33_1⟩ := cz2_ BK711.out))
    go_loopg [7] kj2 (fun kq v7 w' => ∃ (x7_2 : Int) (x712001_2 : List (S33)) (u712001 : Value), v7 = .int .i64 x7_2 ∧ Aside0 (spec_TurnNet.l0 kq l1 x7_2 a0_0 l0_1 (l0_1.length : Int) x712001_2 = some (r1, r2, r3)) ∧ Aside0 (kq ≤ kj2) ∧ Aside0 (Kd.R k33 33 w' w.heap.size (fun _ => True) u712001 x712001_2) ∧ Aside0 (w'.heap[gb706]? = some (.cells #[.int .i64 a0_0, (.slice A0_1 l0_1.length c0_1)] 25 (0, 0))) ∧ Aside0 (w'.heap[gb707]? = some (.cells #[.int .i64 0, (.slice none 0 0)] 25 (0, 0))) ∧ Aside0 (w'.heap[gb711]? = some (.cells #[.int .i64 (l0_1.length : Int), u712001] 25 (0, 0))) ∧ Aside0 (Below w.heap.size w w'))
    case atStart => exact ⟨(0), (([] : List (S33))), (.slice none 0 0), ns_, H', ⟨Nat.le_refl _⟩, ⟨by first | exact Kd.R_nil _ _ _ _ _ | exact Kd.N_nil _ _ _ _ _ | exact Kd.V_nil _ _ _ _ _ | exact Kd.Q_nil _ _ _ _ _ | exact Kd.S_nil _ _ _ _ _⟩, ⟨np_ BK706.out⟩, ⟨np_ BK707.out⟩, ⟨np_ BK711.out⟩, ⟨ne_ HB.out⟩⟩
    case round =>
     clear H'
     try clear c1
     try clear c25
     try clear hcz29_0
     try clear hcz29_1
     try clear hcz33_0
     try clear hcz33_1
     try clear hfz29_0
     try clear hfz29_1
     try clear hfz33_0
     try clear hfz33_1
     obtain ⟨x7_2, x712001_2, u712001, rfl, HA, HK2, HO_712001, BK706, BK707, BK711, HB⟩ := hrel
     cases gk with
     | zero => exact absurd HA.out (by simp [spec_TurnNet.l0])
     | succ k2 =>
      have H := HA.out
      clear HA
      simp only [spec_TurnNet.l0] at H
      by_cases c34 : x7_2 < (l0_1.length : Int)
      rotate_left
      ·rw [if_neg c34] at H
       have c34b0 : decide (x7_2 < (l0_1.length : Int)) = false := decide_eq_false c34
       clear c34
       replace H := Option.bind_eq_some_iff.mp H
       obtain ⟨t712, A700, H⟩ := H
       try dsimp only at H
       have A70 := Aside0.mk A700
       clear A700
       by_cases c71 : t712 = true
       rotate_left
       ·replace c71 := Bool.eq_false_iff.mpr c71
        subst c71
        have H1 : (some (0, ([] : List (S33)), false)) = some (r1, r2, r3) := by rw [if_neg (show ¬ (false = true) by decide)] at H; exact H
        clear H
        have H := H1
        clear H1
        simp only [Option.some.injEq, Prod.mk.injEq] at H
        obtain ⟨rfl, rfl, rfl⟩ := H
        have hnb81 := NB706_707.out
        have hnc81 := NB707_706.out
        have hnb82 := NB706_711.out
        have hnc82 := NB711_706.out
        obtain ⟨hcz83_0, hcz83_1, hfz83_0, hfz83_1⟩ := cz2_ BK706.out
        have hnb84 := NB711_707.out
        have hnc84 := NB707_711.out
        obtain ⟨hcz85_0, hcz85_1, hfz85_0, hfz85_1⟩ := cz2_ BK711.out
        obtain ⟨Ao86, co86, eo86⟩ := Kd.R_slice HO_712001.out
        subst eo86
        go_wp2_with (first | ((with_reducible refine gate_callee (f := 50) rfl ?_); refine gl_ (some 88) Try.func50 #[.agg #[.int .i64 (l0_1.length : Int), .slice Ao86 x712001_2.length co86]] ?_; (with_reducible refine (spec_l1Ok.calls k2 (l0_1.length : Int) _ _ x712001_2 false _ ?side1 ?side2 A70.out).mono ?_); (case side1 => exact nc_ (Kd.R_reads' HO_712001.out).2.2); (case side2 => exact (Kd.R_reads' HO_712001.out).2.1); rintro e w87 ⟨rfl, hb⟩; refine ⟨_, rfl, ?_⟩; replace HO_712001 := kR_ HO_712001 hb; replace BK706 := kb_ BK706 hb; replace BK707 := kb_ BK707 hb; replace BK711 := kb_ BK711 hb; replace HB := kB_ HB hb; (try clear hb); (try clear hb2); (try clear hk); (try clear hi); obtain ⟨hcz88_0, hcz88_1, hfz88_0, hfz88_1⟩ := cz2_ BK707.out))
        refine bodyPost_ret (results_ct rfl _ _ gb707 25 #[.int .i64 0, .slice none 0 0] (0, 0) _ rfl (np_ BK707.out) Try.underlying25 rfl (by kernel_rfl)) rfl ?_
        exact ⟨_, nw_, by first | exact Kd.R_nil _ _ _ _ _ | exact Kd.N_nil _ _ _ _ _ | exact Kd.V_nil _ _ _ _ _ | exact Kd.Q_nil _ _ _ _ _ | exact Kd.S_nil _ _ _ _ _, ne_ HB.out⟩

       subst c71
       have H1 : (some ((l0_1.length : Int), x712001_2, true)) = some (r1, r2, r3) := by rw [if_pos rfl] at H; exact H
       clear H
       have H := H1
       clear H1
       simp only [Option.some.injEq, Prod.mk.injEq] at H
       obtain ⟨rfl, rfl, rfl⟩ := H
       have hnb72 := NB706_707.out
       have hnc72 := NB707_706.out
       have hnb73 := NB706_711.out
       have hnc73 := NB711_706.out
       obtain ⟨hcz74_0, hcz74_1, hfz74_0, hfz74_1⟩ := cz2_ BK706.out
       have hnb75 := NB711_707.out
       have hnc75 := NB707_711.out
       obtain ⟨hcz76_0, hcz76_1, hfz76_0, hfz76_1⟩ := cz2_ BK711.out
       obtain ⟨Ao77, co77, eo77⟩ := Kd.R_slice HO_712001.out
       subst eo77
       go_wp2_with (first | ((with_reducible refine gate_callee (f := 50) rfl ?_); refine gl_ (some 88) Try.func50 #[.agg #[.int .i64 (l0_1.length : Int), .slice Ao77 x712001_2.length co77]] ?_; (with_reducible refine (spec_l1Ok.calls k2 (l0_1.length : Int) _ _ x712001_2 true _ ?side1 ?side2 A70.out).mono ?_); (case side1 => exact nc_ (Kd.R_reads' HO_712001.out).2.2); (case side2 => exact (Kd.R_reads' HO_712001.out).2.1); rintro e w78 ⟨rfl, hb⟩; refine ⟨_, rfl, ?_⟩; replace HO_712001 := kR_ HO_712001 hb; replace BK706 := kb_ BK706 hb; replace BK707 := kb_ BK707 hb; replace BK711 := kb_ BK711 hb; replace HB := kB_ HB hb; (try clear hb); (try clear hb2); (try clear hk); (try clear hi); obtain ⟨hcz79_0, hcz79_1, hfz79_0, hfz79_1⟩ := cz2_ BK711.out; obtain ⟨hcz80_0, hcz80_1, hfz80_0, hfz80_1⟩ := cz2_ BK707.out))
       refine bodyPost_ret (results_ct rfl _ _ gb707 25 #[.int .i64 (l0_1.length : Int), .slice Ao77 x712001_2.length co77] (0, 0) _ rfl (np_ BK707.out) Try.underlying25 rfl (by kernel_rfl)) rfl ?_
       exact ⟨_, nw_, by (with_reducible repeat (first | apply Kd.R_alloc | apply Kd.R_drewN | apply Kd.R_drew)); exact Kd.R_mono (rf2_ (Kd.R_types HO_712001.out BK707.out (by decide))) (fun _ hk => trivial), ne_ HB.out⟩
      rw [if_pos c34] at H
      have c34b0 : decide (x7_2 < (l0_1.length : Int)) = true := decide_eq_true c34
      clear c34
      have H' := Aside0.mk H
      clear H
      have hnb35 := NB706_707.out
      have hnc35 := NB707_706.out
      have hnb36 := NB706_711.out
      have hnc36 := NB711_706.out
      obtain ⟨hcz37_0, hcz37_1, hfz37_0, hfz37_1⟩ := cz2_ BK706.out
      go_wp2
      go_loopg [8] k2 (fun kq v8 w' => ∃ (x8_3 : Int) (x712001_3 : List (S33)) (u712001 : Value), v8 = .int .i64 x8_3 ∧ Aside0 (spec_TurnNet.l1 kq l1 x7_2 x8_3 a0_0 l0_1 (l0_1.length : Int) x712001_3 = some (r1, r2, r3)) ∧ Aside0 (kq ≤ k2) ∧ Aside0 (Kd.R k33 33 w' w.heap.size (fun _ => True) u712001 x712001_3) ∧ Aside0 (w'.heap[gb706]? = some (.cells #[.int .i64 a0_0, (.slice A0_1 l0_1.length c0_1)] 25 (0, 0))) ∧ Aside0 (w'.heap[gb707]? = some (.cells #[.int .i64 0, (.slice none 0 0)] 25 (0, 0))) ∧ Aside0 (w'.heap[gb711]? = some (.cells #[.int .i64 (l0_1.length : Int), u712001] 25 (0, 0))) ∧ Aside0 (Below w.heap.size w w'))
      case atStart => exact ⟨(0), (x712001_2), (u712001), ns_, H', ⟨Nat.le_refl _⟩, ⟨nr_ HO_712001.out⟩, ⟨nb_ BK706.out⟩, ⟨nb_ BK707.out⟩, ⟨nb_ BK711.out⟩, ⟨ne_ HB.out⟩⟩
      case round =>
       clear H'
       try clear c1
       try clear c25
       try clear c34
       try clear c34b0
       try clear hcz29_0
       try clear hcz29_1
       try clear hcz33_0
       try clear hcz33_1
       try clear hcz37_0
       try clear hcz37_1
       try clear hfz29_0
       try clear hfz29_1
       try clear hfz33_0
       try clear hfz33_1
       try clear hfz37_0
       try clear hfz37_1
       obtain ⟨x8_3, x712001_3, u712001, rfl, HA, HK3, HO_712001, BK706, BK707, BK711, HB⟩ := hrel
       cases gk with
       | zero => exact absurd HA.out (by simp [spec_TurnNet.l1])
       | succ k3 =>
        have H := HA.out
        clear HA
        simp only [spec_TurnNet.l1] at H
        by_cases c38 : x8_3 < (l0_1.length : Int)
        rotate_left
        ·rw [if_neg c38] at H
         have c38b0 : decide (x8_3 < (l0_1.length : Int)) = false := decide_eq_false c38
         clear c38
         have H' := Aside0.mk H
         clear H
         have hnb67 := NB706_707.out
         have hnc67 := NB707_706.out
         have hnb68 := NB706_711.out
         have hnc68 := NB711_706.out
         obtain ⟨hcz69_0, hcz69_1, hfz69_0, hfz69_1⟩ := cz2_ BK706.out
         go_wp2
         go_roundg k3
         case measure => have := HJ2.out; have := HK2.out; have := HK3.out; omega
         case rel => exact ⟨(wrap64 (x7_2 + 1)), (x712001_3), (u712001), ns_, H', ⟨by have := HJ2.out; have := HK2.out; have := HK3.out; omega⟩, ⟨nr_ HO_712001.out⟩, ⟨nb_ BK706.out⟩, ⟨nb_ BK707.out⟩, ⟨nb_ BK711.out⟩, ⟨ne_ HB.out⟩⟩
        rw [if_pos c38] at H
        have c38b0 : decide (x8_3 < (l0_1.length : Int)) = true := decide_eq_true c38
        clear c38
        replace H := Option.bind_eq_some_iff.mp H
        obtain ⟨t713, A390, H⟩ := H
        try dsimp only at H
        have A39 := Aside0.mk A390
        clear A390
        by_cases c40 : 0 ≤ x7_2
        rotate_left
        ·rw [if_neg c40] at H
         exact absurd H (by simp)
        rw [if_pos c40] at H
        have c40b0 : decide (0 ≤ x7_2) = true := decide_eq_true c40
        clear c40
        by_cases c41 : x7_2 < (l0_1.length : Int)
        rotate_left
        ·rw [if_neg c41] at H
         exact absurd H (by simp)
        rw [if_pos c41] at H
        have c41b0 : decide (x7_2 < (l0_1.length : Int)) = true := decide_eq_true c41
        clear c41
        by_cases c42 : 0 ≤ x8_3
        rotate_left
        ·rw [if_neg c42] at H
         exact absurd H (by simp)
        rw [if_pos c42] at H
        have c42b0 : decide (0 ≤ x8_3) = true := decide_eq_true c42
        clear c42
        by_cases c43 : ((rd_T33 l0_1 x7_2).f1) = ((rd_T33 l0_1 x8_3).f0)
        rotate_left
        ·rw [if_neg c43] at H
         have c43b0 : (((rd_T33 l0_1 x7_2).f1) == ((rd_T33 l0_1 x8_3).f0)) = false := beq_eq_false_iff_ne.mpr c43
         have c43b1 : (((rd_T33 l0_1 x7_2).f1) != ((rd_T33 l0_1 x8_3).f0)) = true := bne_iff_ne.mpr c43
         have H' := Aside0.mk H
         clear H
         have hnb63 := NB706_707.out
         have hnc63 := NB707_706.out
         have hnb64 := NB706_711.out
         have hnc64 := NB711_706.out
         obtain ⟨hcz65_0, hcz65_1, hfz65_0, hfz65_1⟩ := cz2_ BK706.out
         try go_wp2_with (first | ((with_reducible refine gate_callee (f := 68) rfl ?_); refine gl_ (some 48) Try.func68 #[.slice A1 l1.length c1, .int .i64 x7_2, .int .i64 x8_3] ?_; (with_reducible refine (spec_l4Cost.calls k3 _ _ l1 x7_2 x8_3 t713 _ ?side1 ?side2 A39.out).mono ?_); (case side1 => exact nc_ (Kd.C_below HR1.out HB.out)); (case side2 => exact HC1.out); rintro e w' ⟨rfl, ⟨nd, rfl⟩⟩; refine ⟨_, rfl, ?_⟩))
         (first | (rw [drewN_self wr]; generalize hq_ : World.drewN wr _ = wr; replace HO_712001 : Aside0 (Kd.R k33 33 wr w.heap.size (fun _ => True) u712001 x712001_3) := ⟨by rw [← hq_]; exact (nr_ HO_712001.out)⟩; replace BK706 : Aside0 (wr.heap[gb706]? = some (.cells #[.int .i64 a0_0, .slice A0_1 l0_1.length c0_1] 25 (0, 0))) := ⟨by rw [← hq_]; exact (nb_ BK706.out)⟩; replace BK707 : Aside0 (wr.heap[gb707]? = some (.cells #[.int .i64 0, .slice none 0 0] 25 (0, 0))) := ⟨by rw [← hq_]; exact (nb_ BK707.out)⟩; replace BK711 : Aside0 (wr.heap[gb711]? = some (.cells #[.int .i64 (l0_1.length : Int), u712001] 25 (0, 0))) := ⟨by rw [← hq_]; exact (nb_ BK711.out)⟩; replace HB : Aside0 (Below w.heap.size w wr) := ⟨by rw [← hq_]; exact (ne_ HB.out)⟩; clear hq_) | (have n0_ : Aside0 (Kd.R k33 33 wr w.heap.size (fun _ => True) u712001 x712001_3) := ⟨(nr_ HO_712001.out)⟩; have n1_ : Aside0 (wr.heap[gb706]? = some (.cells #[.int .i64 a0_0, .slice A0_1 l0_1.length c0_1] 25 (0, 0))) := ⟨(nb_ BK706.out)⟩; have n2_ : Aside0 (wr.heap[gb707]? = some (.cells #[.int .i64 0, .slice none 0 0] 25 (0, 0))) := ⟨(nb_ BK707.out)⟩; have n3_ : Aside0 (wr.heap[gb711]? = some (.cells #[.int .i64 (l0_1.length : Int), u712001] 25 (0, 0))) := ⟨(nb_ BK711.out)⟩; have n4_ : Aside0 (Below w.heap.size w wr) := ⟨(ne_ HB.out)⟩; clear HO_712001 BK706 BK707 BK711 HB; have HO_712001 := n0_; have BK706 := n1_; have BK707 := n2_; have BK711 := n3_; have HB := n4_; clear n0_ n1_ n2_ n3_ n4_))
         replace HO_712001 := Aside0.mk (Kd.R_drew HO_712001.out)
         replace BK706 := Aside0.mk (blk_drew BK706.out)
         replace BK707 := Aside0.mk (blk_drew BK707.out)
         replace BK711 := Aside0.mk (blk_drew BK711.out)
         replace HB := Aside0.mk (below_drew1 HB.out)
         have p714 : 0 ≤ (x7_2 : Int) := of_decide_eq_true nx_
         have q714 : x7_2 < (l0_1.length : Int) := of_decide_eq_true nx_
         obtain ⟨ad714, e714, hx714_0, hx714_1, hx714_2, hx714_3, hx714_4⟩ := at_T33 HR0_1.out x7_2 p714 q714
         have hw714_4 := hx714_4
         have hw714_3 := hx714_3
         have hw714_2 := hx714_2
         have hw714_1 := hx714_1
         have hw714_0 := hx714_0
         cases e714
         replace hx714_0 := hb_ HB.out hx714_0
         replace hx714_1 := hb_ HB.out hx714_1
         replace hx714_2 := hb_ HB.out hx714_2
         replace hx714_3 := hb_ HB.out hx714_3
         replace hx714_4 := hb_ HB.out hx714_4
         replace p714 := eq_true p714
         replace q714 := eq_true q714
         have p715 : 0 ≤ (x8_3 : Int) := of_decide_eq_true nx_
         have q715 : x8_3 < (l0_1.length : Int) := of_decide_eq_true nx_
         obtain ⟨ad715, e715, hx715_0, hx715_1, hx715_2, hx715_3, hx715_4⟩ := at_T33 HR0_1.out x8_3 p715 q715
         have hw715_4 := hx715_4
         have hw715_3 := hx715_3
         have hw715_2 := hx715_2
         have hw715_1 := hx715_1
         have hw715_0 := hx715_0
         obtain rfl : ad714 = ad715 := (by injection e715)
         replace hx715_0 := hb_ HB.out hx715_0
         replace hx715_1 := hb_ HB.out hx715_1
         replace hx715_2 := hb_ HB.out hx715_2
         replace hx715_3 := hb_ HB.out hx715_3
         replace hx715_4 := hb_ HB.out hx715_4
         replace p715 := eq_true p715
         replace q715 := eq_true q715
         refine start_ (n := 22) (S := fun w' => w'.cell? ⟨gb706, 0, none⟩ = some (.int .i64 a0_0) ∧ w'.cell? ⟨gb706, 1, none⟩ = some (.slice (some ad714) l0_1.length c0_1) ∧ w'.cell? (ad714.add ((x7_2).toNat * 5)) = some (.int .i64 ((rd_T33 l0_1 x7_2).f0)) ∧ w'.cell? ⟨(ad714.add ((x7_2).toNat * 5)).block, (ad714.add ((x7_2).toNat * 5)).off + 1, none⟩ = some (.int .i64 ((rd_T33 l0_1 x7_2).f1)) ∧ w'.cell? ⟨(ad714.add ((x7_2).toNat * 5)).block, (ad714.add ((x7_2).toNat * 5)).off + 2, none⟩ = some (.int .i64 ((rd_T33 l0_1 x7_2).f2)) ∧ w'.cell? ⟨(ad714.add ((x7_2).toNat * 5)).block, (ad714.add ((x7_2).toNat * 5)).off + 3, none⟩ = some (.int .i64 ((rd_T33 l0_1 x7_2).f3)) ∧ w'.cell? ⟨(ad714.add ((x7_2).toNat * 5)).block, (ad714.add ((x7_2).toNat * 5)).off + 4, none⟩ = some (.int .i64 ((rd_T33 l0_1 x7_2).f4)) ∧ w'.cell? (ad714.add ((x8_3).toNat * 5)) = some (.int .i64 ((rd_T33 l0_1 x8_3).f0)) ∧ w'.cell? ⟨(ad714.add ((x8_3).toNat * 5)).block, (ad714.add ((x8_3).toNat * 5)).off + 1, none⟩ = some (.int .i64 ((rd_T33 l0_1 x8_3).f1)) ∧ w'.cell? ⟨(ad714.add ((x8_3).toNat * 5)).block, (ad714.add ((x8_3).toNat * 5)).off + 2, none⟩ = some (.int .i64 ((rd_T33 l0_1 x8_3).f2)) ∧ w'.cell? ⟨(ad714.add ((x8_3).toNat * 5)).block, (ad714.add ((x8_3).toNat * 5)).off + 3, none⟩ = some (.int .i64 ((rd_T33 l0_1 x8_3).f3)) ∧ w'.cell? ⟨(ad714.add ((x8_3).toNat * 5)).block, (ad714.add ((x8_3).toNat * 5)).off + 4, none⟩ = some (.int .i64 ((rd_T33 l0_1 x8_3).f4))) (ds := []) z33_0 (by kernel_rfl) rfl rfl ⟨ct_ BK706.out 0, ct_ BK706.out 1, ((HB.out.cell (World.block_lt_of_cell? w _ hw714_0)).trans hw714_0), ((HB.out.cell (World.block_lt_of_cell? w _ hw714_1)).trans hw714_1), ((HB.out.cell (World.block_lt_of_cell? w _ hw714_2)).trans hw714_2), ((HB.out.cell (World.block_lt_of_cell? w _ hw714_3)).trans hw714_3), ((HB.out.cell (World.block_lt_of_cell? w _ hw714_4)).trans hw714_4), ((HB.out.cell (World.block_lt_of_cell? w _ hw715_0)).trans hw715_0), ((HB.out.cell (World.block_lt_of_cell? w _ hw715_1)).trans hw715_1), ((HB.out.cell (World.block_lt_of_cell? w _ hw715_2)).trans hw715_2), ((HB.out.cell (World.block_lt_of_cell? w _ hw715_3)).trans hw715_3), ((HB.out.cell (World.block_lt_of_cell? w _ hw715_4)).trans hw715_4)⟩ (fun hHeld => ?_); refine with_tabW spec_TurnNet.tab11 spec_TurnNet.bits11 (fun HT_ HW_ => ?_)
         generalize wr.drew = w66 at HO_712001 BK706 BK707 BK711 HB hx714_0 hx714_1 hx714_2 hx714_3 hx714_4 hx715_0 hx715_1 hx715_2 hx715_3 hx715_4 hHeld ⊢
         refine pu_ 0 49 z33_1 HT_.out ?_
         refine pu_ 2 51 z33_2 HT_.out ?_
         refine pu_ 6 55 z33_3 HT_.out ?_
         refine pu_ 8 57 z33_4 HT_.out ?_
         refine tk_ 1 50 z33_5 HT_.out HW_.out hHeld ?_
         refine pu_ 3 52 z33_6 HT_.out ?_
         refine pu_ 4 53 z33_7 HT_.out ?_
         refine tk_ 5 54 z33_8 HT_.out HW_.out hHeld ?_
         refine tk_ 7 56 z33_9 HT_.out HW_.out hHeld ?_
         refine pu_ 9 58 z33_10 HT_.out ?_
         refine pu_ 10 59 z33_11 HT_.out ?_
         refine tk_ 11 60 z33_12 HT_.out HW_.out hHeld ?_
         refine pu_ 12 61 z33_13 HT_.out ?_
         refine pu_ 13 62 z33_14 HT_.out ?_
         refine un_ 14 63 z33_15 HT_.out ?_
         refine un_ 15 64 z33_16 HT_.out ?_
         refine pu_ 16 65 z33_17 HT_.out ?_
         refine pu_ 17 66 z33_18 HT_.out ?_
         refine un_ 18 67 z33_19 HT_.out ?_
         refine un_ 19 68 z33_20 HT_.out ?_
         refine un_ 20 69 z33_21 HT_.out ?_
         refine pu_ 21 70 z33_22 HT_.out ?_
         refine done_ (done_of HT_.out (by kernel_rfl)) ?_
         try go_wp2
         go_roundg k3
         case measure => have := HJ2.out; have := HK2.out; have := HK3.out; omega
         case rel => exact ⟨(wrap64 (x8_3 + 1)), (x712001_3), (u712001), ns_, H', ⟨by have := HJ2.out; have := HK2.out; have := HK3.out; omega⟩, ⟨nr_ HO_712001.out⟩, ⟨nb_ BK706.out⟩, ⟨nb_ BK707.out⟩, ⟨nb_ BK711.out⟩, ⟨ne_ HB.out⟩⟩
        rw [if_pos c43] at H
        have c43b0 : (((rd_T33 l0_1 x7_2).f1) == ((rd_T33 l0_1 x8_3).f0)) = true := beq_iff_eq.mpr c43
        have c43b1 : (((rd_T33 l0_1 x7_2).f1) != ((rd_T33 l0_1 x8_3).f0)) = false := bne_eq_false_iff_eq.mpr c43
        clear c43
        by_cases c44 : t713 ≥ 0
        rotate_left
        ·rw [if_neg c44] at H
         have c44b0 : decide (0 ≤ t713) = false := decide_eq_false c44
         clear c44
         have H' := Aside0.mk H
         clear H
         have hnb59 := NB706_707.out
         have hnc59 := NB707_706.out
         have hnb60 := NB706_711.out
         have hnc60 := NB711_706.out
         obtain ⟨hcz61_0, hcz61_1, hfz61_0, hfz61_1⟩ := cz2_ BK706.out
         try go_wp2_with (first | ((with_reducible refine gate_callee (f := 68) rfl ?_); refine gl_ (some 48) Try.func68 #[.slice A1 l1.length c1, .int .i64 x7_2, .int .i64 x8_3] ?_; (with_reducible refine (spec_l4Cost.calls k3 _ _ l1 x7_2 x8_3 t713 _ ?side1 ?side2 A39.out).mono ?_); (case side1 => exact nc_ (Kd.C_below HR1.out HB.out)); (case side2 => exact HC1.out); rintro e w' ⟨rfl, ⟨nd, rfl⟩⟩; refine ⟨_, rfl, ?_⟩))
         (first | (rw [drewN_self wr]; generalize hq_ : World.drewN wr _ = wr; replace HO_712001 : Aside0 (Kd.R k33 33 wr w.heap.size (fun _ => True) u712001 x712001_3) := ⟨by rw [← hq_]; exact (nr_ HO_712001.out)⟩; replace BK706 : Aside0 (wr.heap[gb706]? = some (.cells #[.int .i64 a0_0, .slice A0_1 l0_1.length c0_1] 25 (0, 0))) := ⟨by rw [← hq_]; exact (nb_ BK706.out)⟩; replace BK707 : Aside0 (wr.heap[gb707]? = some (.cells #[.int .i64 0, .slice none 0 0] 25 (0, 0))) := ⟨by rw [← hq_]; exact (nb_ BK707.out)⟩; replace BK711 : Aside0 (wr.heap[gb711]? = some (.cells #[.int .i64 (l0_1.length : Int), u712001] 25 (0, 0))) := ⟨by rw [← hq_]; exact (nb_ BK711.out)⟩; replace HB : Aside0 (Below w.heap.size w wr) := ⟨by rw [← hq_]; exact (ne_ HB.out)⟩; clear hq_) | (have n0_ : Aside0 (Kd.R k33 33 wr w.heap.size (fun _ => True) u712001 x712001_3) := ⟨(nr_ HO_712001.out)⟩; have n1_ : Aside0 (wr.heap[gb706]? = some (.cells #[.int .i64 a0_0, .slice A0_1 l0_1.length c0_1] 25 (0, 0))) := ⟨(nb_ BK706.out)⟩; have n2_ : Aside0 (wr.heap[gb707]? = some (.cells #[.int .i64 0, .slice none 0 0] 25 (0, 0))) := ⟨(nb_ BK707.out)⟩; have n3_ : Aside0 (wr.heap[gb711]? = some (.cells #[.int .i64 (l0_1.length : Int), u712001] 25 (0, 0))) := ⟨(nb_ BK711.out)⟩; have n4_ : Aside0 (Below w.heap.size w wr) := ⟨(ne_ HB.out)⟩; clear HO_712001 BK706 BK707 BK711 HB; have HO_712001 := n0_; have BK706 := n1_; have BK707 := n2_; have BK711 := n3_; have HB := n4_; clear n0_ n1_ n2_ n3_ n4_))
         replace HO_712001 := Aside0.mk (Kd.R_drew HO_712001.out)
         replace BK706 := Aside0.mk (blk_drew BK706.out)
         replace BK707 := Aside0.mk (blk_drew BK707.out)
         replace BK711 := Aside0.mk (blk_drew BK711.out)
         replace HB := Aside0.mk (below_drew1 HB.out)
         have p714 : 0 ≤ (x7_2 : Int) := of_decide_eq_true nx_
         have q714 : x7_2 < (l0_1.length : Int) := of_decide_eq_true nx_
         obtain ⟨ad714, e714, hx714_0, hx714_1, hx714_2, hx714_3, hx714_4⟩ := at_T33 HR0_1.out x7_2 p714 q714
         have hw714_4 := hx714_4
         have hw714_3 := hx714_3
         have hw714_2 := hx714_2
         have hw714_1 := hx714_1
         have hw714_0 := hx714_0
         cases e714
         replace hx714_0 := hb_ HB.out hx714_0
         replace hx714_1 := hb_ HB.out hx714_1
         replace hx714_2 := hb_ HB.out hx714_2
         replace hx714_3 := hb_ HB.out hx714_3
         replace hx714_4 := hb_ HB.out hx714_4
         replace p714 := eq_true p714
         replace q714 := eq_true q714
         have p715 : 0 ≤ (x8_3 : Int) := of_decide_eq_true nx_
         have q715 : x8_3 < (l0_1.length : Int) := of_decide_eq_true nx_
         obtain ⟨ad715, e715, hx715_0, hx715_1, hx715_2, hx715_3, hx715_4⟩ := at_T33 HR0_1.out x8_3 p715 q715
         have hw715_4 := hx715_4
         have hw715_3 := hx715_3
         have hw715_2 := hx715_2
         have hw715_1 := hx715_1
         have hw715_0 := hx715_0
         obtain rfl : ad714 = ad715 := (by injection e715)
         replace hx715_0 := hb_ HB.out hx715_0
         replace hx715_1 := hb_ HB.out hx715_1
         replace hx715_2 := hb_ HB.out hx715_2
         replace hx715_3 := hb_ HB.out hx715_3
         replace hx715_4 := hb_ HB.out hx715_4
         replace p715 := eq_true p715
         replace q715 := eq_true q715
         refine start_ (n := 22) (S := fun w' => w'.cell? ⟨gb706, 0, none⟩ = some (.int .i64 a0_0) ∧ w'.cell? ⟨gb706, 1, none⟩ = some (.slice (some ad714) l0_1.length c0_1) ∧ w'.cell? (ad714.add ((x7_2).toNat * 5)) = some (.int .i64 ((rd_T33 l0_1 x7_2).f0)) ∧ w'.cell? ⟨(ad714.add ((x7_2).toNat * 5)).block, (ad714.add ((x7_2).toNat * 5)).off + 1, none⟩ = some (.int .i64 ((rd_T33 l0_1 x7_2).f1)) ∧ w'.cell? ⟨(ad714.add ((x7_2).toNat * 5)).block, (ad714.add ((x7_2).toNat * 5)).off + 2, none⟩ = some (.int .i64 ((rd_T33 l0_1 x7_2).f2)) ∧ w'.cell? ⟨(ad714.add ((x7_2).toNat * 5)).block, (ad714.add ((x7_2).toNat * 5)).off + 3, none⟩ = some (.int .i64 ((rd_T33 l0_1 x7_2).f3)) ∧ w'.cell? ⟨(ad714.add ((x7_2).toNat * 5)).block, (ad714.add ((x7_2).toNat * 5)).off + 4, none⟩ = some (.int .i64 ((rd_T33 l0_1 x7_2).f4)) ∧ w'.cell? (ad714.add ((x8_3).toNat * 5)) = some (.int .i64 ((rd_T33 l0_1 x8_3).f0)) ∧ w'.cell? ⟨(ad714.add ((x8_3).toNat * 5)).block, (ad714.add ((x8_3).toNat * 5)).off + 1, none⟩ = some (.int .i64 ((rd_T33 l0_1 x8_3).f1)) ∧ w'.cell? ⟨(ad714.add ((x8_3).toNat * 5)).block, (ad714.add ((x8_3).toNat * 5)).off + 2, none⟩ = some (.int .i64 ((rd_T33 l0_1 x8_3).f2)) ∧ w'.cell? ⟨(ad714.add ((x8_3).toNat * 5)).block, (ad714.add ((x8_3).toNat * 5)).off + 3, none⟩ = some (.int .i64 ((rd_T33 l0_1 x8_3).f3)) ∧ w'.cell? ⟨(ad714.add ((x8_3).toNat * 5)).block, (ad714.add ((x8_3).toNat * 5)).off + 4, none⟩ = some (.int .i64 ((rd_T33 l0_1 x8_3).f4))) (ds := []) z33_0 (by kernel_rfl) rfl rfl ⟨ct_ BK706.out 0, ct_ BK706.out 1, ((HB.out.cell (World.block_lt_of_cell? w _ hw714_0)).trans hw714_0), ((HB.out.cell (World.block_lt_of_cell? w _ hw714_1)).trans hw714_1), ((HB.out.cell (World.block_lt_of_cell? w _ hw714_2)).trans hw714_2), ((HB.out.cell (World.block_lt_of_cell? w _ hw714_3)).trans hw714_3), ((HB.out.cell (World.block_lt_of_cell? w _ hw714_4)).trans hw714_4), ((HB.out.cell (World.block_lt_of_cell? w _ hw715_0)).trans hw715_0), ((HB.out.cell (World.block_lt_of_cell? w _ hw715_1)).trans hw715_1), ((HB.out.cell (World.block_lt_of_cell? w _ hw715_2)).trans hw715_2), ((HB.out.cell (World.block_lt_of_cell? w _ hw715_3)).trans hw715_3), ((HB.out.cell (World.block_lt_of_cell? w _ hw715_4)).trans hw715_4)⟩ (fun hHeld => ?_); refine with_tabW spec_TurnNet.tab11 spec_TurnNet.bits11 (fun HT_ HW_ => ?_)
         generalize wr.drew = w62 at HO_712001 BK706 BK707 BK711 HB hx714_0 hx714_1 hx714_2 hx714_3 hx714_4 hx715_0 hx715_1 hx715_2 hx715_3 hx715_4 hHeld ⊢
         refine pu_ 0 49 z33_1 HT_.out ?_
         refine pu_ 2 51 z33_2 HT_.out ?_
         refine pu_ 6 55 z33_3 HT_.out ?_
         refine pu_ 8 57 z33_4 HT_.out ?_
         refine tk_ 1 50 z33_5 HT_.out HW_.out hHeld ?_
         refine pu_ 3 52 z33_6 HT_.out ?_
         refine pu_ 4 53 z33_7 HT_.out ?_
         refine tk_ 5 54 z33_8 HT_.out HW_.out hHeld ?_
         refine tk_ 7 56 z33_9 HT_.out HW_.out hHeld ?_
         refine pu_ 9 58 z33_10 HT_.out ?_
         refine pu_ 10 59 z33_11 HT_.out ?_
         refine tk_ 11 60 z33_12 HT_.out HW_.out hHeld ?_
         refine pu_ 12 61 z33_13 HT_.out ?_
         refine pu_ 13 62 z33_14 HT_.out ?_
         refine pu_ 14 63 z33_15 HT_.out ?_
         refine pu_ 15 64 z33_16 HT_.out ?_
         refine pu_ 16 65 z33_17 HT_.out ?_
         refine pu_ 17 66 z33_18 HT_.out ?_
         refine un_ 18 67 z33_19 HT_.out ?_
         refine un_ 19 68 z33_20 HT_.out ?_
         refine un_ 20 69 z33_21 HT_.out ?_
         refine pu_ 21 70 z33_22 HT_.out ?_
         refine done_ (done_of HT_.out (by kernel_rfl)) ?_
         try go_wp2
         go_roundg k3
         case measure => have := HJ2.out; have := HK2.out; have := HK3.out; omega
         case rel => exact ⟨(wrap64 (x8_3 + 1)), (x712001_3), (u712001), ns_, H', ⟨by have := HJ2.out; have := HK2.out; have := HK3.out; omega⟩, ⟨nr_ HO_712001.out⟩, ⟨nb_ BK706.out⟩, ⟨nb_ BK707.out⟩, ⟨nb_ BK711.out⟩, ⟨ne_ HB.out⟩⟩
        rw [if_pos c44] at H
        have c44b0 : decide (0 ≤ t713) = true := decide_eq_true c44
        clear c44
        by_cases c45 : x7_2 = x8_3
        ·rw [if_pos c45] at H
         have c45b0 : (x7_2 == x8_3) = true := beq_iff_eq.mpr c45
         have c45b1 : (x7_2 != x8_3) = false := bne_eq_false_iff_eq.mpr c45
         clear c45
         have H' := Aside0.mk H
         clear H
         have hnb46 := NB706_707.out
         have hnc46 := NB707_706.out
         have hnb47 := NB706_711.out
         have hnc47 := NB711_706.out
         obtain ⟨hcz48_0, hcz48_1, hfz48_0, hfz48_1⟩ := cz2_ BK706.out
         try go_wp2_with (first | ((with_reducible refine gate_callee (f := 68) rfl ?_); refine gl_ (some 48) Try.func68 #[.slice A1 l1.length c1, .int .i64 x7_2, .int .i64 x8_3] ?_; (with_reducible refine (spec_l4Cost.calls k3 _ _ l1 x7_2 x8_3 t713 _ ?side1 ?side2 A39.out).mono ?_); (case side1 => exact nc_ (Kd.C_below HR1.out HB.out)); (case side2 => exact HC1.out); rintro e w' ⟨rfl, ⟨nd, rfl⟩⟩; refine ⟨_, rfl, ?_⟩))
         (first | (rw [drewN_self wr]; generalize hq_ : World.drewN wr _ = wr; replace HO_712001 : Aside0 (Kd.R k33 33 wr w.heap.size (fun _ => True) u712001 x712001_3) := ⟨by rw [← hq_]; exact (nr_ HO_712001.out)⟩; replace BK706 : Aside0 (wr.heap[gb706]? = some (.cells #[.int .i64 a0_0, .slice A0_1 l0_1.length c0_1] 25 (0, 0))) := ⟨by rw [← hq_]; exact (nb_ BK706.out)⟩; replace BK707 : Aside0 (wr.heap[gb707]? = some (.cells #[.int .i64 0, .slice none 0 0] 25 (0, 0))) := ⟨by rw [← hq_]; exact (nb_ BK707.out)⟩; replace BK711 : Aside0 (wr.heap[gb711]? = some (.cells #[.int .i64 (l0_1.length : Int), u712001] 25 (0, 0))) := ⟨by rw [← hq_]; exact (nb_ BK711.out)⟩; replace HB : Aside0 (Below w.heap.size w wr) := ⟨by rw [← hq_]; exact (ne_ HB.out)⟩; clear hq_) | (have n0_ : Aside0 (Kd.R k33 33 wr w.heap.size (fun _ => True) u712001 x712001_3) := ⟨(nr_ HO_712001.out)⟩; have n1_ : Aside0 (wr.heap[gb706]? = some (.cells #[.int .i64 a0_0, .slice A0_1 l0_1.length c0_1] 25 (0, 0))) := ⟨(nb_ BK706.out)⟩; have n2_ : Aside0 (wr.heap[gb707]? = some (.cells #[.int .i64 0, .slice none 0 0] 25 (0, 0))) := ⟨(nb_ BK707.out)⟩; have n3_ : Aside0 (wr.heap[gb711]? = some (.cells #[.int .i64 (l0_1.length : Int), u712001] 25 (0, 0))) := ⟨(nb_ BK711.out)⟩; have n4_ : Aside0 (Below w.heap.size w wr) := ⟨(ne_ HB.out)⟩; clear HO_712001 BK706 BK707 BK711 HB; have HO_712001 := n0_; have BK706 := n1_; have BK707 := n2_; have BK711 := n3_; have HB := n4_; clear n0_ n1_ n2_ n3_ n4_))
         replace HO_712001 := Aside0.mk (Kd.R_drew HO_712001.out)
         replace BK706 := Aside0.mk (blk_drew BK706.out)
         replace BK707 := Aside0.mk (blk_drew BK707.out)
         replace BK711 := Aside0.mk (blk_drew BK711.out)
         replace HB := Aside0.mk (below_drew1 HB.out)
         have p714 : 0 ≤ (x7_2 : Int) := of_decide_eq_true nx_
         have q714 : x7_2 < (l0_1.length : Int) := of_decide_eq_true nx_
         obtain ⟨ad714, e714, hx714_0, hx714_1, hx714_2, hx714_3, hx714_4⟩ := at_T33 HR0_1.out x7_2 p714 q714
         have hw714_4 := hx714_4
         have hw714_3 := hx714_3
         have hw714_2 := hx714_2
         have hw714_1 := hx714_1
         have hw714_0 := hx714_0
         cases e714
         replace hx714_0 := hb_ HB.out hx714_0
         replace hx714_1 := hb_ HB.out hx714_1
         replace hx714_2 := hb_ HB.out hx714_2
         replace hx714_3 := hb_ HB.out hx714_3
         replace hx714_4 := hb_ HB.out hx714_4
         replace p714 := eq_true p714
         replace q714 := eq_true q714
         have p715 : 0 ≤ (x8_3 : Int) := of_decide_eq_true nx_
         have q715 : x8_3 < (l0_1.length : Int) := of_decide_eq_true nx_
         obtain ⟨ad715, e715, hx715_0, hx715_1, hx715_2, hx715_3, hx715_4⟩ := at_T33 HR0_1.out x8_3 p715 q715
         have hw715_4 := hx715_4
         have hw715_3 := hx715_3
         have hw715_2 := hx715_2
         have hw715_1 := hx715_1
         have hw715_0 := hx715_0
         obtain rfl : ad714 = ad715 := (by injection e715)
         replace hx715_0 := hb_ HB.out hx715_0
         replace hx715_1 := hb_ HB.out hx715_1
         replace hx715_2 := hb_ HB.out hx715_2
         replace hx715_3 := hb_ HB.out hx715_3
         replace hx715_4 := hb_ HB.out hx715_4
         replace p715 := eq_true p715
         replace q715 := eq_true q715
         refine start_ (n := 22) (S := fun w' => w'.cell? ⟨gb706, 0, none⟩ = some (.int .i64 a0_0) ∧ w'.cell? ⟨gb706, 1, none⟩ = some (.slice (some ad714) l0_1.length c0_1) ∧ w'.cell? (ad714.add ((x7_2).toNat * 5)) = some (.int .i64 ((rd_T33 l0_1 x7_2).f0)) ∧ w'.cell? ⟨(ad714.add ((x7_2).toNat * 5)).block, (ad714.add ((x7_2).toNat * 5)).off + 1, none⟩ = some (.int .i64 ((rd_T33 l0_1 x7_2).f1)) ∧ w'.cell? ⟨(ad714.add ((x7_2).toNat * 5)).block, (ad714.add ((x7_2).toNat * 5)).off + 2, none⟩ = some (.int .i64 ((rd_T33 l0_1 x7_2).f2)) ∧ w'.cell? ⟨(ad714.add ((x7_2).toNat * 5)).block, (ad714.add ((x7_2).toNat * 5)).off + 3, none⟩ = some (.int .i64 ((rd_T33 l0_1 x7_2).f3)) ∧ w'.cell? ⟨(ad714.add ((x7_2).toNat * 5)).block, (ad714.add ((x7_2).toNat * 5)).off + 4, none⟩ = some (.int .i64 ((rd_T33 l0_1 x7_2).f4)) ∧ w'.cell? (ad714.add ((x8_3).toNat * 5)) = some (.int .i64 ((rd_T33 l0_1 x8_3).f0)) ∧ w'.cell? ⟨(ad714.add ((x8_3).toNat * 5)).block, (ad714.add ((x8_3).toNat * 5)).off + 1, none⟩ = some (.int .i64 ((rd_T33 l0_1 x8_3).f1)) ∧ w'.cell? ⟨(ad714.add ((x8_3).toNat * 5)).block, (ad714.add ((x8_3).toNat * 5)).off + 2, none⟩ = some (.int .i64 ((rd_T33 l0_1 x8_3).f2)) ∧ w'.cell? ⟨(ad714.add ((x8_3).toNat * 5)).block, (ad714.add ((x8_3).toNat * 5)).off + 3, none⟩ = some (.int .i64 ((rd_T33 l0_1 x8_3).f3)) ∧ w'.cell? ⟨(ad714.add ((x8_3).toNat * 5)).block, (ad714.add ((x8_3).toNat * 5)).off + 4, none⟩ = some (.int .i64 ((rd_T33 l0_1 x8_3).f4))) (ds := []) z33_0 (by kernel_rfl) rfl rfl ⟨ct_ BK706.out 0, ct_ BK706.out 1, ((HB.out.cell (World.block_lt_of_cell? w _ hw714_0)).trans hw714_0), ((HB.out.cell (World.block_lt_of_cell? w _ hw714_1)).trans hw714_1), ((HB.out.cell (World.block_lt_of_cell? w _ hw714_2)).trans hw714_2), ((HB.out.cell (World.block_lt_of_cell? w _ hw714_3)).trans hw714_3), ((HB.out.cell (World.block_lt_of_cell? w _ hw714_4)).trans hw714_4), ((HB.out.cell (World.block_lt_of_cell? w _ hw715_0)).trans hw715_0), ((HB.out.cell (World.block_lt_of_cell? w _ hw715_1)).trans hw715_1), ((HB.out.cell (World.block_lt_of_cell? w _ hw715_2)).trans hw715_2), ((HB.out.cell (World.block_lt_of_cell? w _ hw715_3)).trans hw715_3), ((HB.out.cell (World.block_lt_of_cell? w _ hw715_4)).trans hw715_4)⟩ (fun hHeld => ?_); refine with_tabW spec_TurnNet.tab11 spec_TurnNet.bits11 (fun HT_ HW_ => ?_)
         generalize wr.drew = w49 at HO_712001 BK706 BK707 BK711 HB hx714_0 hx714_1 hx714_2 hx714_3 hx714_4 hx715_0 hx715_1 hx715_2 hx715_3 hx715_4 hHeld ⊢
         refine pu_ 0 49 z33_1 HT_.out ?_
         refine pu_ 2 51 z33_2 HT_.out ?_
         refine pu_ 6 55 z33_3 HT_.out ?_
         refine pu_ 8 57 z33_4 HT_.out ?_
         refine tk_ 1 50 z33_5 HT_.out HW_.out hHeld ?_
         refine pu_ 3 52 z33_6 HT_.out ?_
         refine pu_ 4 53 z33_7 HT_.out ?_
         refine tk_ 5 54 z33_8 HT_.out HW_.out hHeld ?_
         refine tk_ 7 56 z33_9 HT_.out HW_.out hHeld ?_
         refine pu_ 9 58 z33_10 HT_.out ?_
         refine pu_ 10 59 z33_11 HT_.out ?_
         refine tk_ 11 60 z33_12 HT_.out HW_.out hHeld ?_
         refine pu_ 12 61 z33_13 HT_.out ?_
         refine pu_ 13 62 z33_14 HT_.out ?_
         refine pu_ 14 63 z33_15 HT_.out ?_
         refine pu_ 15 64 z33_16 HT_.out ?_
         refine pu_ 16 65 z33_17 HT_.out ?_
         refine pu_ 17 66 z33_18 HT_.out ?_
         refine pu_ 18 67 z33_19 HT_.out ?_
         refine pu_ 19 68 z33_20 HT_.out ?_
         refine pu_ 20 69 z33_21 HT_.out ?_
         refine pu_ 21 70 z33_22 HT_.out ?_
         refine done_ (done_of HT_.out (by kernel_rfl)) ?_
         try go_wp2
         go_roundg k3
         case measure => have := HJ2.out; have := HK2.out; have := HK3.out; omega
         case rel => exact ⟨(wrap64 (x8_3 + 1)), (x712001_3), (u712001), ns_, H', ⟨by have := HJ2.out; have := HK2.out; have := HK3.out; omega⟩, ⟨nr_ HO_712001.out⟩, ⟨nb_ BK706.out⟩, ⟨nb_ BK707.out⟩, ⟨nb_ BK711.out⟩, ⟨ne_ HB.out⟩⟩
        rw [if_neg c45] at H
        have c45b0 : (x7_2 == x8_3) = false := beq_eq_false_iff_ne.mpr c45
        have c45b1 : (x7_2 != x8_3) = true := bne_iff_ne.mpr c45
        by_cases c50 : x712001_3.length < 3518437208883
        rotate_left
        ·rw [if_neg c50] at H
         exact absurd H (by simp)
        rw [if_pos c50] at H
        have LMc50 := Aside0.mk c50
        clear c50
        obtain ⟨y717, hy717⟩ : ∃ y_ : List (S33), y_ = (x712001_3 ++ [(⟨x7_2, x8_3, wrap64 (t713 + ((rd_T33 l0_1 x8_3).f2)), 0, 9⟩ : S33)]) := ⟨_, rfl⟩
        replace H : (spec_TurnNet.l1 k3 l1 x7_2 (wrap64 (x8_3 + 1)) a0_0 l0_1 (l0_1.length : Int) y717) = some (r1, r2, r3) := by first | (rw [hy717]; with_reducible exact H) | (have H2_ := (Option.bind_some _ _).symm.trans H; rw [hy717]; with_reducible exact H2_) | (have H2_ := (Option.bind_some _ _).symm.trans H; with_reducible exact H2_) | with_reducible exact H | (rw [hy717]; exact H) | exact H
        have Ny717 := Aside0.mk hy717
        clear hy717
        have H' := Aside0.mk H
        clear H
        have hnb51 := NB706_707.out
        have hnc51 := NB707_706.out
        have hnb52 := NB706_711.out
        have hnc52 := NB711_706.out
        obtain ⟨hcz53_0, hcz53_1, hfz53_0, hfz53_1⟩ := cz2_ BK706.out
        try go_wp2_with (first | ((with_reducible refine gate_callee (f := 68) rfl ?_); refine gl_ (some 48) Try.func68 #[.slice A1 l1.length c1, .int .i64 x7_2, .int .i64 x8_3] ?_; (with_reducible refine (spec_l4Cost.calls k3 _ _ l1 x7_2 x8_3 t713 _ ?side1 ?side2 A39.out).mono ?_); (case side1 => exact nc_ (Kd.C_below HR1.out HB.out)); (case side2 => exact HC1.out); rintro e w' ⟨rfl, ⟨nd, rfl⟩⟩; refine ⟨_, rfl, ?_⟩; (first | (rw [drewN_self wr]; generalize hq_ : World.drewN wr _ = wr; replace HO_712001 : Aside0 (Kd.R k33 33 wr w.heap.size (fun _ => True) u712001 x712001_3) := ⟨by rw [← hq_]; exact (nr_ HO_712001.out)⟩; replace BK706 : Aside0 (wr.heap[gb706]? = some (.cells #[.int .i64 a0_0, .slice A0_1 l0_1.length c0_1] 25 (0, 0))) := ⟨by rw [← hq_]; exact (nb_ BK706.out)⟩; replace BK707 : Aside0 (wr.heap[gb707]? = some (.cells #[.int .i64 0, .slice none 0 0] 25 (0, 0))) := ⟨by rw [← hq_]; exact (nb_ BK707.out)⟩; replace BK711 : Aside0 (wr.heap[gb711]? = some (.cells #[.int .i64 (l0_1.length : Int), u712001] 25 (0, 0))) := ⟨by rw [← hq_]; exact (nb_ BK711.out)⟩; replace HB : Aside0 (Below w.heap.size w wr) := ⟨by rw [← hq_]; exact (ne_ HB.out)⟩; clear hq_) | (have n0_ : Aside0 (Kd.R k33 33 wr w.heap.size (fun _ => True) u712001 x712001_3) := ⟨(nr_ HO_712001.out)⟩; have n1_ : Aside0 (wr.heap[gb706]? = some (.cells #[.int .i64 a0_0, .slice A0_1 l0_1.length c0_1] 25 (0, 0))) := ⟨(nb_ BK706.out)⟩; have n2_ : Aside0 (wr.heap[gb707]? = some (.cells #[.int .i64 0, .slice none 0 0] 25 (0, 0))) := ⟨(nb_ BK707.out)⟩; have n3_ : Aside0 (wr.heap[gb711]? = some (.cells #[.int .i64 (l0_1.length : Int), u712001] 25 (0, 0))) := ⟨(nb_ BK711.out)⟩; have n4_ : Aside0 (Below w.heap.size w wr) := ⟨(ne_ HB.out)⟩; clear HO_712001 BK706 BK707 BK711 HB; have HO_712001 := n0_; have BK706 := n1_; have BK707 := n2_; have BK711 := n3_; have HB := n4_; clear n0_ n1_ n2_ n3_ n4_))))
        replace HO_712001 := Aside0.mk (Kd.R_drew HO_712001.out)
        replace BK706 := Aside0.mk (blk_drew BK706.out)
        replace BK707 := Aside0.mk (blk_drew BK707.out)
        replace BK711 := Aside0.mk (blk_drew BK711.out)
        replace HB := Aside0.mk (below_drew1 HB.out)
        have p714 : 0 ≤ (x7_2 : Int) := of_decide_eq_true nx_
        have q714 : x7_2 < (l0_1.length : Int) := of_decide_eq_true nx_
        obtain ⟨ad714, e714, hx714_0, hx714_1, hx714_2, hx714_3, hx714_4⟩ := at_T33 HR0_1.out x7_2 p714 q714
        have hw714_4 := hx714_4
        have hw714_3 := hx714_3
        have hw714_2 := hx714_2
        have hw714_1 := hx714_1
        have hw714_0 := hx714_0
        cases e714
        replace hx714_0 := hb_ HB.out hx714_0
        replace hx714_1 := hb_ HB.out hx714_1
        replace hx714_2 := hb_ HB.out hx714_2
        replace hx714_3 := hb_ HB.out hx714_3
        replace hx714_4 := hb_ HB.out hx714_4
        replace p714 := eq_true p714
        replace q714 := eq_true q714
        have p715 : 0 ≤ (x8_3 : Int) := of_decide_eq_true nx_
        have q715 : x8_3 < (l0_1.length : Int) := of_decide_eq_true nx_
        obtain ⟨ad715, e715, hx715_0, hx715_1, hx715_2, hx715_3, hx715_4⟩ := at_T33 HR0_1.out x8_3 p715 q715
        have hw715_4 := hx715_4
        have hw715_3 := hx715_3
        have hw715_2 := hx715_2
        have hw715_1 := hx715_1
        have hw715_0 := hx715_0
        obtain rfl : ad714 = ad715 := (by injection e715)
        replace hx715_0 := hb_ HB.out hx715_0
        replace hx715_1 := hb_ HB.out hx715_1
        replace hx715_2 := hb_ HB.out hx715_2
        replace hx715_3 := hb_ HB.out hx715_3
        replace hx715_4 := hb_ HB.out hx715_4
        replace p715 := eq_true p715
        replace q715 := eq_true q715
        refine start_ (n := 22) (S := fun w' => w'.cell? ⟨gb706, 0, none⟩ = some (.int .i64 a0_0) ∧ w'.cell? ⟨gb706, 1, none⟩ = some (.slice (some ad714) l0_1.length c0_1) ∧ w'.cell? (ad714.add ((x7_2).toNat * 5)) = some (.int .i64 ((rd_T33 l0_1 x7_2).f0)) ∧ w'.cell? ⟨(ad714.add ((x7_2).toNat * 5)).block, (ad714.add ((x7_2).toNat * 5)).off + 1, none⟩ = some (.int .i64 ((rd_T33 l0_1 x7_2).f1)) ∧ w'.cell? ⟨(ad714.add ((x7_2).toNat * 5)).block, (ad714.add ((x7_2).toNat * 5)).off + 2, none⟩ = some (.int .i64 ((rd_T33 l0_1 x7_2).f2)) ∧ w'.cell? ⟨(ad714.add ((x7_2).toNat * 5)).block, (ad714.add ((x7_2).toNat * 5)).off + 3, none⟩ = some (.int .i64 ((rd_T33 l0_1 x7_2).f3)) ∧ w'.cell? ⟨(ad714.add ((x7_2).toNat * 5)).block, (ad714.add ((x7_2).toNat * 5)).off + 4, none⟩ = some (.int .i64 ((rd_T33 l0_1 x7_2).f4)) ∧ w'.cell? (ad714.add ((x8_3).toNat * 5)) = some (.int .i64 ((rd_T33 l0_1 x8_3).f0)) ∧ w'.cell? ⟨(ad714.add ((x8_3).toNat * 5)).block, (ad714.add ((x8_3).toNat * 5)).off + 1, none⟩ = some (.int .i64 ((rd_T33 l0_1 x8_3).f1)) ∧ w'.cell? ⟨(ad714.add ((x8_3).toNat * 5)).block, (ad714.add ((x8_3).toNat * 5)).off + 2, none⟩ = some (.int .i64 ((rd_T33 l0_1 x8_3).f2)) ∧ w'.cell? ⟨(ad714.add ((x8_3).toNat * 5)).block, (ad714.add ((x8_3).toNat * 5)).off + 3, none⟩ = some (.int .i64 ((rd_T33 l0_1 x8_3).f3)) ∧ w'.cell? ⟨(ad714.add ((x8_3).toNat * 5)).block, (ad714.add ((x8_3).toNat * 5)).off + 4, none⟩ = some (.int .i64 ((rd_T33 l0_1 x8_3).f4))) (ds := []) z33_0 (by kernel_rfl) rfl rfl ⟨ct_ BK706.out 0, ct_ BK706.out 1, ((HB.out.cell (World.block_lt_of_cell? w _ hw714_0)).trans hw714_0), ((HB.out.cell (World.block_lt_of_cell? w _ hw714_1)).trans hw714_1), ((HB.out.cell (World.block_lt_of_cell? w _ hw714_2)).trans hw714_2), ((HB.out.cell (World.block_lt_of_cell? w _ hw714_3)).trans hw714_3), ((HB.out.cell (World.block_lt_of_cell? w _ hw714_4)).trans hw714_4), ((HB.out.cell (World.block_lt_of_cell? w _ hw715_0)).trans hw715_0), ((HB.out.cell (World.block_lt_of_cell? w _ hw715_1)).trans hw715_1), ((HB.out.cell (World.block_lt_of_cell? w _ hw715_2)).trans hw715_2), ((HB.out.cell (World.block_lt_of_cell? w _ hw715_3)).trans hw715_3), ((HB.out.cell (World.block_lt_of_cell? w _ hw715_4)).trans hw715_4)⟩ (fun hHeld => ?_); refine with_tabW spec_TurnNet.tab11 spec_TurnNet.bits11 (fun HT_ HW_ => ?_)
        generalize wr.drew = w54 at HO_712001 BK706 BK707 BK711 HB hx714_0 hx714_1 hx714_2 hx714_3 hx714_4 hx715_0 hx715_1 hx715_2 hx715_3 hx715_4 hHeld ⊢
        refine pu_ 0 49 z33_1 HT_.out ?_
        refine pu_ 2 51 z33_2 HT_.out ?_
        refine pu_ 6 55 z33_3 HT_.out ?_
        refine pu_ 8 57 z33_4 HT_.out ?_
        refine tk_ 1 50 z33_5 HT_.out HW_.out hHeld ?_
        refine pu_ 3 52 z33_6 HT_.out ?_
        refine pu_ 4 53 z33_7 HT_.out ?_
        refine tk_ 5 54 z33_8 HT_.out HW_.out hHeld ?_
        refine tk_ 7 56 z33_9 HT_.out HW_.out hHeld ?_
        refine pu_ 9 58 z33_10 HT_.out ?_
        refine pu_ 10 59 z33_11 HT_.out ?_
        refine tk_ 11 60 z33_12 HT_.out HW_.out hHeld ?_
        refine pu_ 12 61 z33_13 HT_.out ?_
        refine pu_ 13 62 z33_14 HT_.out ?_
        refine pu_ 14 63 z33_15 HT_.out ?_
        refine pu_ 15 64 z33_16 HT_.out ?_
        refine pu_ 16 65 z33_17 HT_.out ?_
        refine pu_ 17 66 z33_18 HT_.out ?_
        refine pu_ 18 67 z33_19 HT_.out ?_
        refine pu_ 19 68 z33_20 HT_.out ?_
        refine pu_ 20 69 z33_21 HT_.out ?_
        refine pu_ 21 70 z33_22 HT_.out ?_
        refine done_ (done_of HT_.out (by kernel_rfl)) ?_
        try go_wp2
        replace HO_712001 := Aside0.mk (Kd.R_drew HO_712001.out)
        replace BK706 := Aside0.mk (blk_drew BK706.out)
        replace BK707 := Aside0.mk (blk_drew BK707.out)
        replace BK711 := Aside0.mk (blk_drew BK711.out)
        replace HB := Aside0.mk (below_drew1 HB.out)
        have p716 : 0 ≤ (x8_3 : Int) := of_decide_eq_true nx_
        have q716 : x8_3 < (l0_1.length : Int) := of_decide_eq_true nx_
        obtain ⟨ad716, e716, hx716_0, hx716_1, hx716_2, hx716_3, hx716_4⟩ := at_T33 HR0_1.out x8_3 p716 q716
        have hw716_4 := hx716_4
        have hw716_3 := hx716_3
        have hw716_2 := hx716_2
        have hw716_1 := hx716_1
        have hw716_0 := hx716_0
        obtain rfl : ad714 = ad716 := (by injection e716)
        replace hx716_0 := hb_ HB.out hx716_0
        replace hx716_1 := hb_ HB.out hx716_1
        replace hx716_2 := hb_ HB.out hx716_2
        replace hx716_3 := hb_ HB.out hx716_3
        replace hx716_4 := hb_ HB.out hx716_4
        replace p716 := eq_true p716
        replace q716 := eq_true q716
        refine start_ (n := 17) (S := fun w' => w'.cell? ⟨gb711, 0, none⟩ = some (.int .i64 (l0_1.length : Int)) ∧ w'.cell? ⟨gb711, 1, none⟩ = some (u712001) ∧ w'.cell? ⟨gb706, 0, none⟩ = some (.int .i64 a0_0) ∧ w'.cell? ⟨gb706, 1, none⟩ = some (.slice (some ad714) l0_1.length c0_1) ∧ w'.cell? (ad714.add ((x8_3).toNat * 5)) = some (.int .i64 ((rd_T33 l0_1 x8_3).f0)) ∧ w'.cell? ⟨(ad714.add ((x8_3).toNat * 5)).block, (ad714.add ((x8_3).toNat * 5)).off + 1, none⟩ = some (.int .i64 ((rd_T33 l0_1 x8_3).f1)) ∧ w'.cell? ⟨(ad714.add ((x8_3).toNat * 5)).block, (ad714.add ((x8_3).toNat * 5)).off + 2, none⟩ = some (.int .i64 ((rd_T33 l0_1 x8_3).f2)) ∧ w'.cell? ⟨(ad714.add ((x8_3).toNat * 5)).block, (ad714.add ((x8_3).toNat * 5)).off + 3, none⟩ = some (.int .i64 ((rd_T33 l0_1 x8_3).f3)) ∧ w'.cell? ⟨(ad714.add ((x8_3).toNat * 5)).block, (ad714.add ((x8_3).toNat * 5)).off + 4, none⟩ = some (.int .i64 ((rd_T33 l0_1 x8_3).f4))) (ds := [16]) (bm_ 17 0) (by kernel_rfl) rfl rfl ⟨ct_ BK711.out 0, ct_ BK711.out 1, ct_ BK706.out 0, ct_ BK706.out 1, ((HB.out.cell (World.block_lt_of_cell? w _ hw716_0)).trans hw716_0), ((HB.out.cell (World.block_lt_of_cell? w _ hw716_1)).trans hw716_1), ((HB.out.cell (World.block_lt_of_cell? w _ hw716_2)).trans hw716_2), ((HB.out.cell (World.block_lt_of_cell? w _ hw716_3)).trans hw716_3), ((HB.out.cell (World.block_lt_of_cell? w _ hw716_4)).trans hw716_4)⟩ (fun hHeld => ?_); refine with_tabW spec_TurnNet.tab12 spec_TurnNet.bits12 (fun HT_ HW_ => ?_)
        generalize w54.drew = w55 at HO_712001 BK706 BK707 BK711 HB hx716_0 hx716_1 hx716_2 hx716_3 hx716_4 hHeld ⊢
        refine pu_ 0 71 (bm_ 17 1) HT_.out ?_
        refine pu_ 2 73 (bm_ 17 5) HT_.out ?_
        refine pu_ 3 74 (bm_ 17 13) HT_.out ?_
        refine pu_ 4 75 (bm_ 17 29) HT_.out ?_
        refine pu_ 5 76 (bm_ 17 61) HT_.out ?_
        refine pu_ 7 78 (bm_ 17 189) HT_.out ?_
        refine tk_ 1 72 (bm_ 17 191) HT_.out HW_.out hHeld ?_
        refine tk_ 6 77 (bm_ 17 255) HT_.out HW_.out hHeld ?_
        refine pu_ 8 79 (bm_ 17 511) HT_.out ?_
        refine pu_ 9 80 (bm_ 17 1023) HT_.out ?_
        refine tk_ 10 81 (bm_ 17 2047) HT_.out HW_.out hHeld ?_
        refine pu_ 11 82 (bm_ 17 4095) HT_.out ?_
        refine pu_ 12 83 (bm_ 17 8191) HT_.out ?_
        refine one_ (i := 13) (N := some 84) (bm_ 17 16383) rfl rfl (one_of HT_.out (by kernel_rfl)) (by decide) (fun K hK => ?_)
        refine value_ (w1 := ?_) (v := ?_) (by rfl) rfl ?_ ?_
        rotate_left 2
        ·go_simp
         constructor
         ·rfl
         ·rfl
        refine hK.out _ _ ⟨(blk_cell (blk_alloc BK711.out _) 0).trans rfl, (blk_cell (blk_alloc BK711.out _) 1).trans rfl, (blk_cell (blk_alloc BK706.out _) 0).trans rfl, (blk_cell (blk_alloc BK706.out _) 1).trans rfl, (World.cell?_alloc_lt _ _ _ (World.block_lt_of_cell? _ _ (((HB.out.cell (World.block_lt_of_cell? w _ hw716_0)).trans hw716_0)))).trans (((HB.out.cell (World.block_lt_of_cell? w _ hw716_0)).trans hw716_0)), (World.cell?_alloc_lt _ _ _ (World.block_lt_of_cell? _ _ (((HB.out.cell (World.block_lt_of_cell? w _ hw716_1)).trans hw716_1)))).trans (((HB.out.cell (World.block_lt_of_cell? w _ hw716_1)).trans hw716_1)), (World.cell?_alloc_lt _ _ _ (World.block_lt_of_cell? _ _ (((HB.out.cell (World.block_lt_of_cell? w _ hw716_2)).trans hw716_2)))).trans (((HB.out.cell (World.block_lt_of_cell? w _ hw716_2)).trans hw716_2)), (World.cell?_alloc_lt _ _ _ (World.block_lt_of_cell? _ _ (((HB.out.cell (World.block_lt_of_cell? w _ hw716_3)).trans hw716_3)))).trans (((HB.out.cell (World.block_lt_of_cell? w _ hw716_3)).trans hw716_3)), (World.cell?_alloc_lt _ _ _ (World.block_lt_of_cell? _ _ (((HB.out.cell (World.block_lt_of_cell? w _ hw716_4)).trans hw716_4)))).trans (((HB.out.cell (World.block_lt_of_cell? w _ hw716_4)).trans hw716_4))⟩ (fun hHeld => ?_)
        clear hK K
        refine nm1_ (some 84) ?_
        refine one_ (i := 14) (N := some 85) (bm_ 17 32767) rfl rfl (one_of HT_.out (by kernel_rfl)) (by decide) (fun K hK => ?_)
        refine Kd.R_append_step k33 (w0 := w) w.heap.size (by rfl) (.tmp 72) (.tmp 84) 23 33 (.agg #[(.int .i64 0), (.int .i64 0), (.int .i64 0), (.int .i64 0), (.int .i64 0)]) 40 rfl Try.underlying23 info33 rfl (by decide) (by omega) u712001 x712001_3 (⟨x7_2, x8_3, wrap64 (t713 + ((rd_T33 l0_1 x8_3).f2)), 0, 9⟩ : S33) [.int .i64 x7_2, .int .i64 x8_3, .int .i64 (wrap64 (t713 + ((rd_T33 l0_1 x8_3).f2))), .int .i64 0, .int .i64 9] (fun _ => True) (fun _ => False) rfl rfl ?aP (fun _ hk => hk.elim) ?aF ?aO ?aB ?aS ?aL ?_
        (case aP => exact k33_mkM _ _ _ (⟨x7_2, x8_3, wrap64 (t713 + ((rd_T33 l0_1 x8_3).f2)), 0, 9⟩ : S33))
        (case aB => exact (ne_ HB.out))
        (case aF => exact (fun _ _ => trivial))
        (case aO => exact (nr_ HO_712001.out))
        (case aS => exact (below_size (ne_ HB.out)))
        (case aL => have := LMc50.out; omega)
        intro v718 w56 ho hb hg hat
        rw [← Ny717.out] at ho
        replace BK706 := Aside0.mk (blk_grown (g := gb706) (o := .cells #[.int .i64 a0_0, .slice (some ad714) l0_1.length c0_1] 25 (0, 0)) (nb_ BK706.out) hg (Kd.R_ne HO_712001.out BK706.out (by decide)))
        replace BK707 := Aside0.mk (blk_grown (g := gb707) (o := .cells #[.int .i64 0, .slice none 0 0] 25 (0, 0)) (nb_ BK707.out) hg (Kd.R_ne HO_712001.out BK707.out (by decide)))
        replace BK711 := Aside0.mk (blk_grown (g := gb711) (o := .cells #[.int .i64 (l0_1.length : Int), u712001] 25 (0, 0)) (nb_ BK711.out) hg (Kd.R_ne HO_712001.out BK711.out (by decide)))
        replace HB := Aside0.mk (hb)
        have HO719 := Aside0.mk (ho)
        clear HO_712001 ho hb hg hat
        obtain ⟨Ao57, co57, eo57⟩ := Kd.R_slice HO719.out
        (first | subst eo57 | (injection eo57 with f1_ f2_ f3_; have f4_ := f1_.symm; have f5_ := f3_.symm; clear f1_ f2_ f3_; subst f4_; subst f5_))
        refine hK.out _ _ ⟨ct_ BK711.out 0, ct_ BK711.out 1, ct_ BK706.out 0, ct_ BK706.out 1, ((HB.out.cell (World.block_lt_of_cell? w _ hw716_0)).trans hw716_0), ((HB.out.cell (World.block_lt_of_cell? w _ hw716_1)).trans hw716_1), ((HB.out.cell (World.block_lt_of_cell? w _ hw716_2)).trans hw716_2), ((HB.out.cell (World.block_lt_of_cell? w _ hw716_3)).trans hw716_3), ((HB.out.cell (World.block_lt_of_cell? w _ hw716_4)).trans hw716_4)⟩ (fun hHeld => ?_)
        clear hK K
        refine nm1_ (some 85) ?_
        refine pu_ 15 86 (bm_ 17 65535) HT_.out ?_
        refine last_ (i := 16) (N := none) (bm_ 17 131071) rfl rfl (one_of HT_.out (by kernel_rfl)) (by decide) (fun K hK => ?_)
        have hs58 : w56.cell? ⟨gb711, 1, none⟩ = some (u712001) := ct_ BK711.out 1
        have hfs58 := blk_frozen BK711.out 1
        have hns58_0 := NB706_711.out
        have hns58_1 := NB707_711.out
        have hms58_0 := NB711_706.out
        have hms58_1 := NB711_707.out
        refine skip_ (w1 := ?_) (by rfl) rfl ?_ ?_
        rotate_left
        ·go_simp
         rfl
        refine hK.out _ _ ?_
        clear hK K
        refine done_ (done_of HT_.out (by kernel_rfl)) ?_
        try go_wp2
        go_roundg k3
        case measure => have := HJ2.out; have := HK2.out; have := HK3.out; omega
        case rel => exact ⟨(wrap64 (x8_3 + 1)), (y717), (.slice Ao57 y717.length co57), ns_, H', ⟨by have := HJ2.out; have := HK2.out; have := HK3.out; omega⟩, ⟨by (with_reducible repeat (first | apply Kd.R_alloc | apply Kd.R_drewN | apply Kd.R_drew)); exact Kd.R_mono (Kd.R_far (p := ⟨gb711, 1, none⟩) (Kd.R_types HO719.out BK711.out (by decide)) (fun _ hk => hk.2) (.slice Ao57 y717.length co57)) (fun _ hk => trivial)⟩, ⟨np_ BK706.out⟩, ⟨np_ BK707.out⟩, ⟨np_ BK711.out⟩, ⟨ne_ HB.out⟩⟩
end Go.Proofs.Ytcfmejfmjjgoaaa.Print
