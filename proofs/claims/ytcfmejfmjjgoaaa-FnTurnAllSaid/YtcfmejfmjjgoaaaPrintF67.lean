-- Made by this session's own program (wip/patch_print.py, over the kit's print). Lean checks it.
import Derived.Test.YtcfmejfmjjgoaaaPrint0
import Derived.Test.YtcfmejfmjjgoaaaPrintF88
namespace Go.Proofs.Ytcfmejfmjjgoaaa.Print
open Go.RowKit Go.Proofs.YtcfmejfmjjgoaaaW.PrintWords Go.Proofs.YtcfmejfmjjgoaaaW.PrintLast Go.Proofs.YtcfmejfmjjgoaaaW.PrintMore Go.Proofs.YtcfmejfmjjgoaaaX
attribute [local go_sem] max2_int min2_int max_two min_two max_three min_three max_four min_four   -- for this text's walks alone
set_option linter.unusedVariables false
set_option linter.unusedSimpArgs false

abbrev z67_0 := bm_ 14 0
abbrev z67_1 := bm_ 14 1
abbrev z67_2 := bm_ 14 3
abbrev z67_3 := bm_ 14 7
abbrev z67_4 := bm_ 14 23
abbrev z67_5 := bm_ 14 55
abbrev z67_6 := bm_ 14 183
abbrev z67_7 := bm_ 14 191
abbrev z67_8 := bm_ 14 255
abbrev z67_9 := bm_ 14 511
abbrev z67_10 := bm_ 14 1023
abbrev z67_11 := bm_ 14 2047
abbrev z67_12 := bm_ 14 4095
abbrev z67_13 := bm_ 14 8191
abbrev z67_14 := bm_ 14 16383
/-! ### spec_l4All: function 67 -/
mutual
def spec_l4All.l0 : Nat → Int → List Int → List Int → Int → Int → List (S33) → Option (List Int)
  | 0, _, _, _, _, _, _ => none
  | k + 1, x2, x7, x8, x9, x650000, x650001 => if x9 < x650000 then (if 0 ≤ x9 then (if x9 < (x8.length : Int) then (spec_l4All.l0 k x2 x7 (x8.set (x9 : Int).toNat 99999) (wrap64 (x9 + 1)) x650000 x650001) else (none)) else (none)) else (if 0 ≤ x2 then (if x2 < (x8.length : Int) then (spec_l4All.l1 k x7 (x8.set (x2 : Int).toNat 0) 0 x650000 x650001) else (none)) else (none))
def spec_l4All.l1 : Nat → List Int → List Int → Int → Int → List (S33) → Option (List Int)
  | 0, _, _, _, _, _ => none
  | k + 1, x7, x8, x10, x650000, x650001 => if x10 < (x7.length : Int) then (if 0 ≤ x10 then (if x10 < (x650001.length : Int) then (if 0 ≤ ((rd_T33 x650001 x10).f1) then (if ((rd_T33 x650001 x10).f1) < (x8.length : Int) then (if (rd x7 x10) < (rd x8 ((rd_T33 x650001 x10).f1)) then (spec_l4All.l1 k x7 (x8.set (((rd_T33 x650001 x10).f1) : Int).toNat (rd x7 x10)) (wrap64 (x10 + 1)) x650000 x650001) else (spec_l4All.l1 k x7 x8 (wrap64 (x10 + 1)) x650000 x650001)) else (none)) else (none)) else (none)) else (none)) else (some x8)
end
def spec_l4All.f (k : Nat) (a0_0 : Int) (l0_1 : List (S33)) (l1 : List (S31)) (a2 : Int) : Option (List Int) := (spec_l4Arcs.f k a0_0 l0_1 l1 a2).bind fun t650 => (if 0 ≤ a0_0 then (if (a0_0 : Int).toNat ≤ 35184372088832 then (spec_l4All.l0 k a2 t650 (List.replicate (a0_0 : Int).toNat 0) 0 a0_0 l0_1) else (none)) else (none))
def spec_l4All.T11 : Bool × List (List Nat × List Nat) := (true, [([], []), ([], []), ([0, 1], [0, 1]), ([2], [2]), ([], []), ([], []), ([5], [5]), ([], []), ([6, 7], [6, 7]), ([8], [8]), ([9], [9]), ([4, 10], [4, 10]), ([11], [11]), ([3, 12], [3, 12])])
def spec_l4All.B11 : List Nat := [0, 0, 3, 7, 0, 0, 32, 0, 224, 480, 992, 2032, 4080, 8191]
theorem spec_l4All.tab11 : rtab .any (opsOf Try.f67 11) = spec_l4All.T11 := by kernel_rfl
theorem spec_l4All.bits11 : waitsOk spec_l4All.T11.2 spec_l4All.B11 = true := by kernel_rfl
def spec_l4All.T12 : Bool × List (List Nat × List Nat) := (true, [([], []), ([], []), ([1], [1]), ([], []), ([2, 3], [2, 3]), ([4], [4]), ([5], [5]), ([], []), ([], []), ([7, 8], [7, 8]), ([9], [9]), ([0, 6, 0, 1, 2, 3, 4, 5, 6, 7, 8, 9, 10], [0, 6]), ([11, 10, 0, 1, 2, 3, 4, 5, 6, 7, 8, 9, 10], [10, 11])])
def spec_l4All.B12 : List Nat := [0, 0, 2, 0, 14, 30, 62, 0, 0, 384, 896, 2047, 4095]
theorem spec_l4All.tab12 : rtab .any (opsOf Try.f67 12) = spec_l4All.T12 := by kernel_rfl
theorem spec_l4All.bits12 : waitsOk spec_l4All.T12.2 spec_l4All.B12 = true := by kernel_rfl
set_option maxHeartbeats 200000000 in
set_option maxRecDepth 100000 in
theorem spec_l4All.calls (k : Nat) (a0_0 : Int) (A0_1 : Option Addr) (c0_1 : Nat) (l0_1 : List (S33)) (A1 : Option Addr) (c1 : Nat) (l1 : List (S31)) (a2 : Int) (r : List Int) (w : World) (hr0_1 : Kd.C k33 w A0_1 l0_1.length l0_1) (hc0_1 : l0_1.length ≤ c0_1) (hr1 : Kd.C k31 w A1 l1.length l1) (hc1 : l1.length ≤ c1) (h : spec_l4All.f k a0_0 l0_1 l1 a2 = some r) :
    Calls Try.prog 67 #[.agg #[.int .i64 a0_0, .slice A0_1 l0_1.length c0_1], .slice A1 l1.length c1, .int .i64 a2] w fun e w' => ∃ v0_ : Value, e = .returned (v0_) ∧ Kd.R (Kd.int .i64) 3 w' w.heap.size (fun _ => True) v0_ r ∧ Below w.heap.size w w' := by
  have hu25 := Try.underlying25
  have HR0_1 := Aside0.mk hr0_1
  have HC0_1 := Aside0.mk hc0_1
  clear hr0_1 hc0_1
  have HR1 := Aside0.mk hr1
  have HC1 := Aside0.mk hc1
  clear hr1 hc1
  have HB := Aside0.mk (Below.refl w.heap.size w)
  have H : ((spec_l4Arcs.f k a0_0 l0_1 l1 a2).bind fun t650 => (if 0 ≤ a0_0 then (if (a0_0 : Int).toNat ≤ 35184372088832 then (spec_l4All.l0 k a2 t650 (List.replicate (a0_0 : Int).toNat 0) 0 a0_0 l0_1) else (none)) else (none))) = some r := h
  clear h
  replace H := Option.bind_eq_some_iff.mp H
  obtain ⟨t650, A40, H⟩ := H
  try dsimp only at H
  have A4 := Aside0.mk A40
  clear A40
  by_cases c5 : 0 ≤ a0_0
  rotate_left
  ·rw [if_neg c5] at H
   exact absurd H (by simp)

  rw [if_pos c5] at H
  have c5b0 := eq_true c5
  have c5b1 : decide (0 ≤ a0_0) = true := decide_eq_true c5
  clear c5
  by_cases c6 : (a0_0 : Int).toNat ≤ 35184372088832
  rotate_left
  ·rw [if_neg c6] at H
   exact absurd H (by simp)
  rw [if_pos c6] at H
  have c6b0 := eq_true c6
  have c6b1 : decide ((a0_0 : Int).toNat ≤ 35184372088832) = true := decide_eq_true c6
  clear c6
  obtain ⟨y653, hy653⟩ : ∃ y_ : List Int, y_ = (List.replicate (a0_0 : Int).toNat 0) := ⟨_, rfl⟩
  replace H : (spec_l4All.l0 k a2 t650 y653 0 a0_0 l0_1) = some r := by first | (rw [hy653]; with_reducible exact H) | (have H2_ := (Option.bind_some _ _).symm.trans H; rw [hy653]; with_reducible exact H2_) | (have H2_ := (Option.bind_some _ _).symm.trans H; with_reducible exact H2_) | with_reducible exact H | (rw [hy653]; exact H) | exact H
  have Ny653 := Aside0.mk hy653
  clear hy653
  have H' := Aside0.mk H
  clear H
  go_enter Try.func67, Try.ntmps67
  go_wp2_with (first | ((with_reducible refine gate_dst (N := 3) rfl ?_); refine bx_ 3 #[.int .i64 a0_0, .slice A0_1 l0_1.length c0_1] 25 ?_; intro gb649 hg w7 hbox hb; have BK649 := Aside0.mk (hbox); have GW649 := Aside0.mk (zs_ hg (ne_ HB.out)); have GE649 := Aside0.mk (zs_ hg (ne_ HB.out)); replace HB := kB_ HB hb; clear hb hbox hg; obtain ⟨hcz8_0, hcz8_1, hfz8_0, hfz8_1⟩ := cz2_ BK649.out) | ((with_reducible refine gate_callee (f := 88) rfl ?_); refine gl_ (some 14) Try.func88 #[.agg #[.int .i64 a0_0, .slice A0_1 l0_1.length c0_1], .slice A1 l1.length c1, .int .i64 a2] ?_; (with_reducible refine (spec_l4Arcs.calls k a0_0 _ _ l0_1 _ _ l1 a2 t650 _ ?side1 ?side2 ?side3 ?side4 A4.out).mono ?_); (case side1 => exact nc_ (Kd.C_below HR0_1.out HB.out)); (case side2 => exact HC0_1.out); (case side3 => exact nc_ (Kd.C_below HR1.out HB.out)); (case side4 => exact HC1.out); rintro e w9 ⟨v651, rfl, ho0, hb⟩; refine ⟨_, rfl, ?_⟩; have HO652 := Aside0.mk (Kd.R_lower ho0 (below_size (ne_ HB.out))); replace BK649 := kb_ BK649 hb; replace HB := kB_ HB hb; (try clear hb); (try clear hb2); (try clear hk); (try clear hi); (try clear ho0); obtain ⟨hcz10_0, hcz10_1, hfz10_0, hfz10_1⟩ := cz2_ BK649.out) | ((with_reducible refine gate_dst (N := 17) rfl ?_); refine Kd.R_make (Kd.int .i64) _ 3 rfl (N := 17) rfl 46 _ _ rfl a0_0 rfl rfl Try.underlying46 (.int .i64 0) 8 info3 rfl (by decide) (by omega) 0 (ok := fun _ => True) (okp := fun _ => True) rfl (fun _ hk => hk) trivial (of_decide_eq_true nx_) (Nat.le_trans (Nat.mul_le_mul_right _ (of_decide_eq_true nx_ : a0_0.toNat ≤ 35184372088832)) (by omega)) (Below.refl _ _) (Nat.le_refl _) ?_; intro v654 w11 ho12 hb hg_ hnew_; clear hg_ hnew_; (first | rw [← Ny653.out] at ho12 | (simp only [Int.reduceToNat] at ho12; rw [← Ny653.out] at ho12)); have HO655 := Aside0.mk (Kd.R_lower (Kd.R_new' ho12 (Kd.R_lt (nr_ HO652.out))) (below_size (ne_ HB.out))); replace HO652 := Aside0.mk (Kd.R_elder' (nr_ HO652.out) (Kd.R_base ho12) hb); replace BK649 := kb_ BK649 hb; replace HB := kB_ HB hb; clear hb ho12))
  go_loopg [9] k (fun kq v9 w' => ∃ (x8_1 : List Int) (x9_1 : Int), v9 = .int .i64 x9_1 ∧ Aside0 (spec_l4All.l0 kq a2 t650 x8_1 x9_1 a0_0 l0_1 = some r) ∧ Aside0 (kq ≤ k) ∧ Aside0 (Kd.R (Kd.int .i64) 3 w' w.heap.size (fun k_ => some k_ ≠ (v654 : Value).ownBlock) v651 t650) ∧ Aside0 (Kd.R (Kd.int .i64) 3 w' w.heap.size (fun k_ => some k_ ≠ (v651 : Value).ownBlock) v654 x8_1) ∧ Aside0 (w'.heap[gb649]? = some (.cells #[.int .i64 a0_0, (.slice A0_1 l0_1.length c0_1)] 25 (0, 0))) ∧ Aside0 (Below w.heap.size w w'))
  case atStart => exact ⟨(y653), (0), ns_, H', ⟨Nat.le_refl _⟩, ⟨by (with_reducible repeat (first | apply Kd.R_alloc | apply Kd.R_drewN | apply Kd.R_drew)); exact Kd.R_mono HO652.out (fun _ hk => by first | exact hk.2 | trivial | simp_all)⟩, ⟨by (with_reducible repeat (first | apply Kd.R_alloc | apply Kd.R_drewN | apply Kd.R_drew)); exact Kd.R_mono HO655.out (fun _ hk => by first | exact hk.2 | trivial | simp_all)⟩, ⟨nb_ BK649.out⟩, ⟨ne_ HB.out⟩⟩
  case round =>
   clear H'
   try clear c1
   try clear c5
   try clear c5b0
   try clear c5b1
   try clear c6
   try clear c6b0
   try clear c6b1
   try clear hcz10_0
   try clear hcz10_1
   try clear hcz8_0
   try clear hcz8_1
   try clear hfz10_0
   try clear hfz10_1
   try clear hfz8_0
   try clear hfz8_1
   obtain ⟨x8_1, x9_1, rfl, HA, HK1, HO_7, HO_8, BK649, HB⟩ := hrel
   cases gk with
   | zero => exact absurd HA.out (by simp [spec_l4All.l0])
   | succ k1 =>
    have H := HA.out
    clear HA
    simp only [spec_l4All.l0] at H
    by_cases c13 : x9_1 < a0_0
    ·rw [if_pos c13] at H
     have c13b0 : decide (x9_1 < a0_0) = true := decide_eq_true c13
     clear c13
     by_cases c14 : 0 ≤ x9_1
     rotate_left
     ·rw [if_neg c14] at H
      exact absurd H (by simp)
     rw [if_pos c14] at H
     have c14b0 : decide (0 ≤ x9_1) = true := decide_eq_true c14
     clear c14
     by_cases c15 : x9_1 < (x8_1.length : Int)
     rotate_left
     ·rw [if_neg c15] at H
      exact absurd H (by simp)
     rw [if_pos c15] at H
     have c15b0 : decide (x9_1 < (x8_1.length : Int)) = true := decide_eq_true c15
     clear c15
     obtain ⟨y656, hy656⟩ : ∃ y_ : List Int, y_ = (x8_1.set (x9_1 : Int).toNat 99999) := ⟨_, rfl⟩
     replace H : (spec_l4All.l0 k1 a2 t650 y656 (wrap64 (x9_1 + 1)) a0_0 l0_1) = some r := by first | (rw [hy656]; with_reducible exact H) | (have H2_ := (Option.bind_some _ _).symm.trans H; rw [hy656]; with_reducible exact H2_) | (have H2_ := (Option.bind_some _ _).symm.trans H; with_reducible exact H2_) | with_reducible exact H | (rw [hy656]; exact H) | exact H
     have Ny656 := Aside0.mk hy656
     clear hy656
     have H' := Aside0.mk H
     clear H
     obtain ⟨hcz17_0, hcz17_1, hfz17_0, hfz17_1⟩ := cz2_ BK649.out
     have p16 : 0 ≤ (x9_1 : Int) := of_decide_eq_true nx_
     have q16 : (x9_1 : Int) < ((x8_1.length : Int) : Int) := of_decide_eq_true nx_
     obtain ⟨go16, co16, eo16, gb16, gl16, cl16, HG16⟩ := Kd.R_form HO_8.out (by omega)
     (first | cases eo16 | (injection eo16 with ea_ en_ ec_; (first | subst ea_ | (injection ea_ with ea_; subst ea_)); subst ec_; clear en_))
     have GB16 := Aside0.mk gb16
     have GG16 := Aside0.mk HG16
     clear gb16 gl16 HG16
     obtain ⟨hx16_0, hf16_0⟩ := Kd.R_celln 0 HO_8.out (x9_1 : Int) p16 q16
     replace p16 := eq_true p16
     replace q16 := eq_true q16
     have HP18 := Kd.R_putg HO_8.out (x9_1 : Int) 99999
     go_wp2_with (first | ((with_reducible refine gate_store (t := 3) (p := 26) rfl ?_); refine store_event (t := 3) (p := 26) (v := ?vo_w19) (w1 := (wr.setCell ⟨go16, (x9_1 : Int).toNat, none⟩ (.int .i64 99999))) ?hg ?ho ?hn ?hr ?_; (case ho => rfl); (case hg => rfl); (case hn => rfl); (case hr => first | (go_simp; done) | (go_simp; rfl)); intro w19 hw; have hg : wr.grownBy w19 (some go16) := (by rw [hw]; exact HP18.2); have hp_ : Kd.R (Kd.int .i64) 3 w19 w.heap.size (fun k_ => some k_ ≠ (v651 : Value).ownBlock) (.slice (some ⟨go16, 0, none⟩) x8_1.length co16) y656 := (by rw [hw, Ny656.out]; exact HP18.1); clear HP18; replace HO_7 := Aside0.mk (Kd.R_after (v := (.slice (some ⟨go16, 0, none⟩) x8_1.length co16)) (v1 := (.slice (some ⟨go16, 0, none⟩) x8_1.length co16)) (ok := (fun _ => True)) (by (with_reducible repeat (first | apply Kd.R_alloc | apply Kd.R_drewN | apply Kd.R_drew)); exact Kd.R_mono HO_7.out (fun _ hk => by first | exact ⟨trivial, hk⟩ | trivial | simp_all)) hg (.inl rfl)); replace BK649 := Aside0.mk (blk_grown (g := gb649) (o := .cells #[.int .i64 a0_0, .slice A0_1 l0_1.length c0_1] 25 (0, 0)) (nb_ BK649.out) hg (Kd.R_ne HO_8.out BK649.out (by decide))); replace HO_8 := Aside0.mk (hp_); replace HB := Aside0.mk ((by rw [hw]; exact below_set (HB.out) GB16.out : Below w.heap.size w w19)); clear hg hw hp_))
     go_roundg k1
     case measure => have := HK1.out; omega
     case rel => exact ⟨(y656), (wrap64 (x9_1 + 1)), ns_, H', ⟨by have := HK1.out; omega⟩, ⟨by (with_reducible repeat (first | apply Kd.R_alloc | apply Kd.R_drewN | apply Kd.R_drew)); exact Kd.R_mono HO_7.out (fun _ hk => by first | exact hk.2 | trivial | simp_all)⟩, ⟨nr_ HO_8.out⟩, ⟨nb_ BK649.out⟩, ⟨ne_ HB.out⟩⟩
    rw [if_neg c13] at H
    have c13b0 : decide (x9_1 < a0_0) = false := decide_eq_false c13
    clear c13
    by_cases c20 : 0 ≤ a2
    rotate_left
    ·rw [if_neg c20] at H
     exact absurd H (by simp)
    rw [if_pos c20] at H
    have c20b0 : decide (0 ≤ a2) = true := decide_eq_true c20
    clear c20
    by_cases c21 : a2 < (x8_1.length : Int)
    rotate_left
    ·rw [if_neg c21] at H
     exact absurd H (by simp)
    rw [if_pos c21] at H
    have c21b0 : decide (a2 < (x8_1.length : Int)) = true := decide_eq_true c21
    clear c21
    obtain ⟨y657, hy657⟩ : ∃ y_ : List Int, y_ = (x8_1.set (a2 : Int).toNat 0) := ⟨_, rfl⟩
    replace H : (spec_l4All.l1 k1 t650 y657 0 a0_0 l0_1) = some r := by first | (rw [hy657]; with_reducible exact H) | (have H2_ := (Option.bind_some _ _).symm.trans H; rw [hy657]; with_reducible exact H2_) | (have H2_ := (Option.bind_some _ _).symm.trans H; with_reducible exact H2_) | with_reducible exact H | (rw [hy657]; exact H) | exact H
    have Ny657 := Aside0.mk hy657
    clear hy657
    have H' := Aside0.mk H
    clear H
    obtain ⟨hcz23_0, hcz23_1, hfz23_0, hfz23_1⟩ := cz2_ BK649.out
    have p22 : 0 ≤ (a2 : Int) := of_decide_eq_true nx_
    have q22 : (a2 : Int) < ((x8_1.length : Int) : Int) := of_decide_eq_true nx_
    obtain ⟨go22, co22, eo22, gb22, gl22, cl22, HG22⟩ := Kd.R_form HO_8.out (by omega)
    (first | cases eo22 | (injection eo22 with ea_ en_ ec_; (first | subst ea_ | (injection ea_ with ea_; subst ea_)); subst ec_; clear en_))
    have GB22 := Aside0.mk gb22
    have GG22 := Aside0.mk HG22
    clear gb22 gl22 HG22
    obtain ⟨hx22_0, hf22_0⟩ := Kd.R_celln 0 HO_8.out (a2 : Int) p22 q22
    replace p22 := eq_true p22
    replace q22 := eq_true q22
    have HP24 := Kd.R_putg HO_8.out (a2 : Int) 0
    go_wp2_with (first | ((with_reducible refine gate_store (t := 3) (p := 29) rfl ?_); refine store_event (t := 3) (p := 29) (v := ?vo_w25) (w1 := (wr.setCell ⟨go22, (a2 : Int).toNat, none⟩ (.int .i64 0))) ?hg ?ho ?hn ?hr ?_; (case ho => rfl); (case hg => rfl); (case hn => rfl); (case hr => first | (go_simp; done) | (go_simp; rfl)); intro w25 hw; have hg : wr.grownBy w25 (some go22) := (by rw [hw]; exact HP24.2); have hp_ : Kd.R (Kd.int .i64) 3 w25 w.heap.size (fun k_ => some k_ ≠ (v651 : Value).ownBlock) (.slice (some ⟨go22, 0, none⟩) x8_1.length co22) y657 := (by rw [hw, Ny657.out]; exact HP24.1); clear HP24; replace HO_7 := Aside0.mk (Kd.R_after (v := (.slice (some ⟨go22, 0, none⟩) x8_1.length co22)) (v1 := (.slice (some ⟨go22, 0, none⟩) x8_1.length co22)) (ok := (fun _ => True)) (by (with_reducible repeat (first | apply Kd.R_alloc | apply Kd.R_drewN | apply Kd.R_drew)); exact Kd.R_mono HO_7.out (fun _ hk => by first | exact ⟨trivial, hk⟩ | trivial | simp_all)) hg (.inl rfl)); replace BK649 := Aside0.mk (blk_grown (g := gb649) (o := .cells #[.int .i64 a0_0, .slice A0_1 l0_1.length c0_1] 25 (0, 0)) (nb_ BK649.out) hg (Kd.R_ne HO_8.out BK649.out (by decide))); replace HO_8 := Aside0.mk (hp_); replace HB := Aside0.mk ((by rw [hw]; exact below_set (HB.out) GB22.out : Below w.heap.size w w25)); clear hg hw hp_))
    go_loopg [10] k1 (fun kq v10 w' => ∃ (x8_2 : List Int) (x10_2 : Int), v10 = .int .i64 x10_2 ∧ Aside0 (spec_l4All.l1 kq t650 x8_2 x10_2 a0_0 l0_1 = some r) ∧ Aside0 (kq ≤ k1) ∧ Aside0 (Kd.R (Kd.int .i64) 3 w' w.heap.size (fun k_ => some k_ ≠ ((.slice (some ⟨go22, 0, none⟩) x8_1.length co22) : Value).ownBlock) v651 t650) ∧ Aside0 (Kd.R (Kd.int .i64) 3 w' w.heap.size (fun k_ => some k_ ≠ (v651 : Value).ownBlock) (.slice (some ⟨go22, 0, none⟩) x8_1.length co22) x8_2) ∧ Aside0 (w'.heap[gb649]? = some (.cells #[.int .i64 a0_0, (.slice A0_1 l0_1.length c0_1)] 25 (0, 0))) ∧ Aside0 (Below w.heap.size w w'))
    case atStart => exact ⟨(y657), (0), ns_, H', ⟨Nat.le_refl _⟩, ⟨by (with_reducible repeat (first | apply Kd.R_alloc | apply Kd.R_drewN | apply Kd.R_drew)); exact Kd.R_mono HO_7.out (fun _ hk => by first | exact hk.2 | trivial | simp_all)⟩, ⟨nr_ HO_8.out⟩, ⟨nb_ BK649.out⟩, ⟨ne_ HB.out⟩⟩
    case round =>
     clear H'
     try clear c1
     try clear c5
     try clear c5b0
     try clear c5b1
     try clear c6
     try clear c6b0
     try clear c6b1
     try clear c13
     try clear c13b0
     try clear c20
     try clear c20b0
     try clear c21
     try clear c21b0
     try clear p22
     try clear q22
     try clear hcz10_0
     try clear hcz10_1
     try clear hcz23_0
     try clear hcz23_1
     try clear hcz8_0
     try clear hcz8_1
     try clear hfz10_0
     try clear hfz10_1
     try clear hfz23_0
     try clear hfz23_1
     try clear hfz8_0
     try clear hfz8_1
     try clear hx22_0
     try clear p22
     try clear q22
     obtain ⟨x8_2, x10_2, rfl, HA, HK2, HO_7, HO_8, BK649, HB⟩ := hrel
     have hl8_2 := (Kd.R_reads' HO_8.out).1
     rw [hl8_2] at HO_8
     (try simp only [hl8_2])
     (try simp only [hl8_2] at BK649)
     (try simp only [hl8_2] at HO_7)
     cases gk with
     | zero => exact absurd HA.out (by simp [spec_l4All.l1])
     | succ k2 =>
      have H := HA.out
      clear HA
      simp only [spec_l4All.l1] at H
      by_cases c26 : x10_2 < (t650.length : Int)
      rotate_left
      ·rw [if_neg c26] at H
       have c26b0 : decide (x10_2 < (t650.length : Int)) = false := decide_eq_false c26
       clear c26
       obtain rfl := Option.some.inj H
       obtain ⟨Ao39, co39, eo39⟩ := Kd.R_slice HO_7.out
       subst eo39
       go_wp2
       go_ret
       exact ⟨_, nw_, by (with_reducible repeat (first | apply Kd.R_alloc | apply Kd.R_drewN | apply Kd.R_drew)); exact Kd.R_mono HO_8.out (fun _ hk => trivial), ne_ HB.out⟩
      rw [if_pos c26] at H
      have c26b0 : decide (x10_2 < (t650.length : Int)) = true := decide_eq_true c26
      clear c26
      by_cases c27 : 0 ≤ x10_2
      rotate_left
      ·rw [if_neg c27] at H
       exact absurd H (by simp)
      rw [if_pos c27] at H
      have c27b0 : decide (0 ≤ x10_2) = true := decide_eq_true c27
      clear c27
      by_cases c28 : x10_2 < (l0_1.length : Int)
      rotate_left
      ·rw [if_neg c28] at H
       exact absurd H (by simp)
      rw [if_pos c28] at H
      have c28b0 : decide (x10_2 < (l0_1.length : Int)) = true := decide_eq_true c28
      clear c28
      by_cases c29 : 0 ≤ ((rd_T33 l0_1 x10_2).f1)
      rotate_left
      ·rw [if_neg c29] at H
       exact absurd H (by simp)
      rw [if_pos c29] at H
      have c29b0 : decide (0 ≤ ((rd_T33 l0_1 x10_2).f1)) = true := decide_eq_true c29
      clear c29
      by_cases c30 : ((rd_T33 l0_1 x10_2).f1) < (x8_2.length : Int)
      rotate_left
      ·rw [if_neg c30] at H
       exact absurd H (by simp)
      rw [if_pos c30] at H
      have c30b0 : decide (((rd_T33 l0_1 x10_2).f1) < (x8_2.length : Int)) = true := decide_eq_true c30
      clear c30
      by_cases c31 : (rd t650 x10_2) < (rd x8_2 ((rd_T33 l0_1 x10_2).f1))
      rotate_left
      ·rw [if_neg c31] at H
       have c31b0 : decide ((rd t650 x10_2) < (rd x8_2 ((rd_T33 l0_1 x10_2).f1))) = false := decide_eq_false c31
       clear c31
       have H' := Aside0.mk H
       clear H
       obtain ⟨Ao37, co37, eo37⟩ := Kd.R_slice HO_7.out
       subst eo37
       try go_wp2
       replace HO_7 := Aside0.mk (Kd.R_drew HO_7.out)
       replace HO_8 := Aside0.mk (Kd.R_drew HO_8.out)
       replace BK649 := Aside0.mk (blk_drew BK649.out)
       replace HB := Aside0.mk (below_drew1 HB.out)
       have p658 : 0 ≤ (x10_2 : Int) := of_decide_eq_true nx_
       have q658 : x10_2 < (t650.length : Int) := of_decide_eq_true nx_
       obtain ⟨ad658, e658, hx658_0⟩ := Kd.at_int (Kd.R_reads' HO_7.out).2.2 x10_2 p658 q658
       cases e658
       replace p658 := eq_true p658
       replace q658 := eq_true q658
       have p659 : 0 ≤ (x10_2 : Int) := of_decide_eq_true nx_
       have q659 : x10_2 < (l0_1.length : Int) := of_decide_eq_true nx_
       obtain ⟨ad659, e659, hx659_0, hx659_1, hx659_2, hx659_3, hx659_4⟩ := at_T33 HR0_1.out x10_2 p659 q659
       have hw659_4 := hx659_4
       have hw659_3 := hx659_3
       have hw659_2 := hx659_2
       have hw659_1 := hx659_1
       have hw659_0 := hx659_0
       cases e659
       replace hx659_0 := hb_ HB.out hx659_0
       replace hx659_1 := hb_ HB.out hx659_1
       replace hx659_2 := hb_ HB.out hx659_2
       replace hx659_3 := hb_ HB.out hx659_3
       replace hx659_4 := hb_ HB.out hx659_4
       replace p659 := eq_true p659
       replace q659 := eq_true q659
       have p660 : 0 ≤ (((rd_T33 l0_1 x10_2).f1) : Int) := of_decide_eq_true nx_
       have q660 : ((rd_T33 l0_1 x10_2).f1) < (x8_2.length : Int) := of_decide_eq_true nx_
       obtain ⟨ad660, e660, hx660_0⟩ := Kd.at_int (Kd.R_reads' HO_8.out).2.2 ((rd_T33 l0_1 x10_2).f1) p660 q660
       obtain rfl : (⟨go22, 0, none⟩ : Addr) = ad660 := (by injection e660)
       (first | simp only [add_plain] at hx660_0 | simp only [add_at] at hx660_0 | simp only [Addr.add, Nat.zero_add] at hx660_0 | skip)
       replace p660 := eq_true p660
       replace q660 := eq_true q660
       refine start_ (n := 14) (S := fun w' => w'.cell? ⟨gb649, 0, none⟩ = some (.int .i64 a0_0) ∧ w'.cell? ⟨gb649, 1, none⟩ = some (.slice (some ad659) l0_1.length c0_1) ∧ w'.cell? (ad658.add (x10_2).toNat) = some (.int .i64 (rd t650 x10_2)) ∧ w'.cell? (ad659.add ((x10_2).toNat * 5)) = some (.int .i64 ((rd_T33 l0_1 x10_2).f0)) ∧ w'.cell? ⟨(ad659.add ((x10_2).toNat * 5)).block, (ad659.add ((x10_2).toNat * 5)).off + 1, none⟩ = some (.int .i64 ((rd_T33 l0_1 x10_2).f1)) ∧ w'.cell? ⟨(ad659.add ((x10_2).toNat * 5)).block, (ad659.add ((x10_2).toNat * 5)).off + 2, none⟩ = some (.int .i64 ((rd_T33 l0_1 x10_2).f2)) ∧ w'.cell? ⟨(ad659.add ((x10_2).toNat * 5)).block, (ad659.add ((x10_2).toNat * 5)).off + 3, none⟩ = some (.int .i64 ((rd_T33 l0_1 x10_2).f3)) ∧ w'.cell? ⟨(ad659.add ((x10_2).toNat * 5)).block, (ad659.add ((x10_2).toNat * 5)).off + 4, none⟩ = some (.int .i64 ((rd_T33 l0_1 x10_2).f4)) ∧ w'.cell? ⟨go22, (((rd_T33 l0_1 x10_2).f1)).toNat, none⟩ = some (.int .i64 (rd x8_2 ((rd_T33 l0_1 x10_2).f1)))) (ds := []) z67_0 (by kernel_rfl) rfl rfl ⟨ct_ BK649.out 0, ct_ BK649.out 1, hx658_0, ((HB.out.cell (World.block_lt_of_cell? w _ hw659_0)).trans hw659_0), ((HB.out.cell (World.block_lt_of_cell? w _ hw659_1)).trans hw659_1), ((HB.out.cell (World.block_lt_of_cell? w _ hw659_2)).trans hw659_2), ((HB.out.cell (World.block_lt_of_cell? w _ hw659_3)).trans hw659_3), ((HB.out.cell (World.block_lt_of_cell? w _ hw659_4)).trans hw659_4), hx660_0⟩ (fun hHeld => ?_); refine with_tabW spec_l4All.tab11 spec_l4All.bits11 (fun HT_ HW_ => ?_)
       generalize wr.drew = w38 at HO_7 HO_8 BK649 HB hx658_0 hx659_0 hx659_1 hx659_2 hx659_3 hx659_4 hx660_0 hHeld ⊢
       refine pu_ 0 36 z67_1 HT_.out ?_
       refine pu_ 1 37 z67_2 HT_.out ?_
       refine pu_ 2 38 z67_3 HT_.out ?_
       refine pu_ 4 40 z67_4 HT_.out ?_
       refine pu_ 5 41 z67_5 HT_.out ?_
       refine pu_ 7 43 z67_6 HT_.out ?_
       refine tk_ 3 39 z67_7 HT_.out HW_.out hHeld ?_
       refine tk_ 6 42 z67_8 HT_.out HW_.out hHeld ?_
       refine pu_ 8 44 z67_9 HT_.out ?_
       refine pu_ 9 45 z67_10 HT_.out ?_
       refine tk_ 10 46 z67_11 HT_.out HW_.out hHeld ?_
       refine pu_ 11 47 z67_12 HT_.out ?_
       refine tk_ 12 48 z67_13 HT_.out HW_.out hHeld ?_
       refine pu_ 13 49 z67_14 HT_.out ?_
       refine done_ (done_of HT_.out (by kernel_rfl)) ?_
       try go_wp2
       (try simp only [← hl8_2])
       go_roundg k2
       case measure => have := HK1.out; have := HK2.out; omega
       case rel => exact ⟨(x8_2), (wrap64 (x10_2 + 1)), ns_, H', ⟨by have := HK1.out; have := HK2.out; omega⟩, ⟨by (try simp only [hl8_2]); (with_reducible repeat (first | apply Kd.R_alloc | apply Kd.R_drewN | apply Kd.R_drew)); exact HO_7.out⟩, ⟨by (try simp only [hl8_2]); (with_reducible repeat (first | apply Kd.R_alloc | apply Kd.R_drewN | apply Kd.R_drew)); exact HO_8.out⟩, ⟨by (try simp only [hl8_2]); (with_reducible repeat (first | refine blk_drewN ?_ _ | refine blk_drew ?_ | refine blk_alloc ?_ _)); exact BK649.out⟩, ⟨ne_ HB.out⟩⟩
      rw [if_pos c31] at H
      have c31b0 : decide ((rd t650 x10_2) < (rd x8_2 ((rd_T33 l0_1 x10_2).f1))) = true := decide_eq_true c31
      clear c31
      obtain ⟨y663, hy663⟩ : ∃ y_ : List Int, y_ = (x8_2.set (((rd_T33 l0_1 x10_2).f1) : Int).toNat (rd t650 x10_2)) := ⟨_, rfl⟩
      replace H : (spec_l4All.l1 k2 t650 y663 (wrap64 (x10_2 + 1)) a0_0 l0_1) = some r := by first | (rw [hy663]; with_reducible exact H) | (have H2_ := (Option.bind_some _ _).symm.trans H; rw [hy663]; with_reducible exact H2_) | (have H2_ := (Option.bind_some _ _).symm.trans H; with_reducible exact H2_) | with_reducible exact H | (rw [hy663]; exact H) | exact H
      have Ny663 := Aside0.mk hy663
      clear hy663
      have H' := Aside0.mk H
      clear H
      obtain ⟨Ao33, co33, eo33⟩ := Kd.R_slice HO_7.out
      subst eo33
      try go_wp2
      replace HO_7 := Aside0.mk (Kd.R_drew HO_7.out)
      replace HO_8 := Aside0.mk (Kd.R_drew HO_8.out)
      replace BK649 := Aside0.mk (blk_drew BK649.out)
      replace HB := Aside0.mk (below_drew1 HB.out)
      have p658 : 0 ≤ (x10_2 : Int) := of_decide_eq_true nx_
      have q658 : x10_2 < (t650.length : Int) := of_decide_eq_true nx_
      obtain ⟨ad658, e658, hx658_0⟩ := Kd.at_int (Kd.R_reads' HO_7.out).2.2 x10_2 p658 q658
      cases e658
      replace p658 := eq_true p658
      replace q658 := eq_true q658
      have p659 : 0 ≤ (x10_2 : Int) := of_decide_eq_true nx_
      have q659 : x10_2 < (l0_1.length : Int) := of_decide_eq_true nx_
      obtain ⟨ad659, e659, hx659_0, hx659_1, hx659_2, hx659_3, hx659_4⟩ := at_T33 HR0_1.out x10_2 p659 q659
      have hw659_4 := hx659_4
      have hw659_3 := hx659_3
      have hw659_2 := hx659_2
      have hw659_1 := hx659_1
      have hw659_0 := hx659_0
      cases e659
      replace hx659_0 := hb_ HB.out hx659_0
      replace hx659_1 := hb_ HB.out hx659_1
      replace hx659_2 := hb_ HB.out hx659_2
      replace hx659_3 := hb_ HB.out hx659_3
      replace hx659_4 := hb_ HB.out hx659_4
      replace p659 := eq_true p659
      replace q659 := eq_true q659
      have p660 : 0 ≤ (((rd_T33 l0_1 x10_2).f1) : Int) := of_decide_eq_true nx_
      have q660 : ((rd_T33 l0_1 x10_2).f1) < (x8_2.length : Int) := of_decide_eq_true nx_
      obtain ⟨ad660, e660, hx660_0⟩ := Kd.at_int (Kd.R_reads' HO_8.out).2.2 ((rd_T33 l0_1 x10_2).f1) p660 q660
      obtain rfl : (⟨go22, 0, none⟩ : Addr) = ad660 := (by injection e660)
      (first | simp only [add_plain] at hx660_0 | simp only [add_at] at hx660_0 | simp only [Addr.add, Nat.zero_add] at hx660_0 | skip)
      replace p660 := eq_true p660
      replace q660 := eq_true q660
      refine start_ (n := 14) (S := fun w' => w'.cell? ⟨gb649, 0, none⟩ = some (.int .i64 a0_0) ∧ w'.cell? ⟨gb649, 1, none⟩ = some (.slice (some ad659) l0_1.length c0_1) ∧ w'.cell? (ad658.add (x10_2).toNat) = some (.int .i64 (rd t650 x10_2)) ∧ w'.cell? (ad659.add ((x10_2).toNat * 5)) = some (.int .i64 ((rd_T33 l0_1 x10_2).f0)) ∧ w'.cell? ⟨(ad659.add ((x10_2).toNat * 5)).block, (ad659.add ((x10_2).toNat * 5)).off + 1, none⟩ = some (.int .i64 ((rd_T33 l0_1 x10_2).f1)) ∧ w'.cell? ⟨(ad659.add ((x10_2).toNat * 5)).block, (ad659.add ((x10_2).toNat * 5)).off + 2, none⟩ = some (.int .i64 ((rd_T33 l0_1 x10_2).f2)) ∧ w'.cell? ⟨(ad659.add ((x10_2).toNat * 5)).block, (ad659.add ((x10_2).toNat * 5)).off + 3, none⟩ = some (.int .i64 ((rd_T33 l0_1 x10_2).f3)) ∧ w'.cell? ⟨(ad659.add ((x10_2).toNat * 5)).block, (ad659.add ((x10_2).toNat * 5)).off + 4, none⟩ = some (.int .i64 ((rd_T33 l0_1 x10_2).f4)) ∧ w'.cell? ⟨go22, (((rd_T33 l0_1 x10_2).f1)).toNat, none⟩ = some (.int .i64 (rd x8_2 ((rd_T33 l0_1 x10_2).f1)))) (ds := []) z67_0 (by kernel_rfl) rfl rfl ⟨ct_ BK649.out 0, ct_ BK649.out 1, hx658_0, ((HB.out.cell (World.block_lt_of_cell? w _ hw659_0)).trans hw659_0), ((HB.out.cell (World.block_lt_of_cell? w _ hw659_1)).trans hw659_1), ((HB.out.cell (World.block_lt_of_cell? w _ hw659_2)).trans hw659_2), ((HB.out.cell (World.block_lt_of_cell? w _ hw659_3)).trans hw659_3), ((HB.out.cell (World.block_lt_of_cell? w _ hw659_4)).trans hw659_4), hx660_0⟩ (fun hHeld => ?_); refine with_tabW spec_l4All.tab11 spec_l4All.bits11 (fun HT_ HW_ => ?_)
      generalize wr.drew = w34 at HO_7 HO_8 BK649 HB hx658_0 hx659_0 hx659_1 hx659_2 hx659_3 hx659_4 hx660_0 hHeld ⊢
      refine pu_ 0 36 z67_1 HT_.out ?_
      refine pu_ 1 37 z67_2 HT_.out ?_
      refine pu_ 2 38 z67_3 HT_.out ?_
      refine pu_ 4 40 z67_4 HT_.out ?_
      refine pu_ 5 41 z67_5 HT_.out ?_
      refine pu_ 7 43 z67_6 HT_.out ?_
      refine tk_ 3 39 z67_7 HT_.out HW_.out hHeld ?_
      refine tk_ 6 42 z67_8 HT_.out HW_.out hHeld ?_
      refine pu_ 8 44 z67_9 HT_.out ?_
      refine pu_ 9 45 z67_10 HT_.out ?_
      refine tk_ 10 46 z67_11 HT_.out HW_.out hHeld ?_
      refine pu_ 11 47 z67_12 HT_.out ?_
      refine tk_ 12 48 z67_13 HT_.out HW_.out hHeld ?_
      refine pu_ 13 49 z67_14 HT_.out ?_
      refine done_ (done_of HT_.out (by kernel_rfl)) ?_
      try go_wp2
      replace HO_7 := Aside0.mk (Kd.R_drew HO_7.out)
      replace HO_8 := Aside0.mk (Kd.R_drew HO_8.out)
      replace BK649 := Aside0.mk (blk_drew BK649.out)
      replace HB := Aside0.mk (below_drew1 HB.out)
      have p661 : 0 ≤ (x10_2 : Int) := of_decide_eq_true nx_
      have q661 : x10_2 < (l0_1.length : Int) := of_decide_eq_true nx_
      obtain ⟨ad661, e661, hx661_0, hx661_1, hx661_2, hx661_3, hx661_4⟩ := at_T33 HR0_1.out x10_2 p661 q661
      have hw661_4 := hx661_4
      have hw661_3 := hx661_3
      have hw661_2 := hx661_2
      have hw661_1 := hx661_1
      have hw661_0 := hx661_0
      obtain rfl : ad659 = ad661 := (by injection e661)
      replace hx661_0 := hb_ HB.out hx661_0
      replace hx661_1 := hb_ HB.out hx661_1
      replace hx661_2 := hb_ HB.out hx661_2
      replace hx661_3 := hb_ HB.out hx661_3
      replace hx661_4 := hb_ HB.out hx661_4
      replace p661 := eq_true p661
      replace q661 := eq_true q661
      have p662 : 0 ≤ (x10_2 : Int) := of_decide_eq_true nx_
      have q662 : x10_2 < (t650.length : Int) := of_decide_eq_true nx_
      obtain ⟨ad662, e662, hx662_0⟩ := Kd.at_int (Kd.R_reads' HO_7.out).2.2 x10_2 p662 q662
      obtain rfl : ad658 = ad662 := (by injection e662)
      replace p662 := eq_true p662
      replace q662 := eq_true q662
      have p32 : 0 ≤ (((rd_T33 l0_1 x10_2).f1) : Int) := of_decide_eq_true nx_
      have q32 : (((rd_T33 l0_1 x10_2).f1) : Int) < ((x8_2.length : Int) : Int) := of_decide_eq_true nx_
      obtain ⟨hx32_0, hf32_0⟩ := Kd.R_celln 0 HO_8.out (((rd_T33 l0_1 x10_2).f1) : Int) p32 q32
      replace p32 := eq_true p32
      replace q32 := eq_true q32
      have HP36 := Kd.R_putn HO_8.out (((rd_T33 l0_1 x10_2).f1) : Int) (rd t650 x10_2)
      rw [← Ny663.out] at HP36
      have HQ36 := Aside0.mk HP36
      clear HP36
      refine start_ (n := 13) (S := fun w' => w'.cell? ⟨gb649, 0, none⟩ = some (.int .i64 a0_0) ∧ w'.cell? ⟨gb649, 1, none⟩ = some (.slice (some ad659) l0_1.length c0_1) ∧ w'.cell? (ad659.add ((x10_2).toNat * 5)) = some (.int .i64 ((rd_T33 l0_1 x10_2).f0)) ∧ w'.cell? ⟨(ad659.add ((x10_2).toNat * 5)).block, (ad659.add ((x10_2).toNat * 5)).off + 1, none⟩ = some (.int .i64 ((rd_T33 l0_1 x10_2).f1)) ∧ w'.cell? ⟨(ad659.add ((x10_2).toNat * 5)).block, (ad659.add ((x10_2).toNat * 5)).off + 2, none⟩ = some (.int .i64 ((rd_T33 l0_1 x10_2).f2)) ∧ w'.cell? ⟨(ad659.add ((x10_2).toNat * 5)).block, (ad659.add ((x10_2).toNat * 5)).off + 3, none⟩ = some (.int .i64 ((rd_T33 l0_1 x10_2).f3)) ∧ w'.cell? ⟨(ad659.add ((x10_2).toNat * 5)).block, (ad659.add ((x10_2).toNat * 5)).off + 4, none⟩ = some (.int .i64 ((rd_T33 l0_1 x10_2).f4)) ∧ w'.cell? (ad658.add (x10_2).toNat) = some (.int .i64 (rd t650 x10_2))) (ds := [12]) (bm_ 13 0) (by kernel_rfl) rfl rfl ⟨ct_ BK649.out 0, ct_ BK649.out 1, ((HB.out.cell (World.block_lt_of_cell? w _ hw661_0)).trans hw661_0), ((HB.out.cell (World.block_lt_of_cell? w _ hw661_1)).trans hw661_1), ((HB.out.cell (World.block_lt_of_cell? w _ hw661_2)).trans hw661_2), ((HB.out.cell (World.block_lt_of_cell? w _ hw661_3)).trans hw661_3), ((HB.out.cell (World.block_lt_of_cell? w _ hw661_4)).trans hw661_4), hx662_0⟩ (fun hHeld => ?_); refine with_tabW spec_l4All.tab12 spec_l4All.bits12 (fun HT_ HW_ => ?_)
      generalize w34.drew = w35 at HO_7 HO_8 BK649 HB HQ36 hf32_0 hx32_0 hx661_0 hx661_1 hx661_2 hx661_3 hx661_4 hx662_0 hHeld ⊢
      refine pu_ 0 50 (bm_ 13 1) HT_.out ?_
      refine pu_ 1 51 (bm_ 13 3) HT_.out ?_
      refine pu_ 3 53 (bm_ 13 11) HT_.out ?_
      refine pu_ 7 57 (bm_ 13 139) HT_.out ?_
      refine pu_ 8 58 (bm_ 13 395) HT_.out ?_
      refine pu_ 9 59 (bm_ 13 907) HT_.out ?_
      refine tk_ 2 52 (bm_ 13 911) HT_.out HW_.out hHeld ?_
      refine pu_ 4 54 (bm_ 13 927) HT_.out ?_
      refine pu_ 5 55 (bm_ 13 959) HT_.out ?_
      refine tk_ 6 56 (bm_ 13 1023) HT_.out HW_.out hHeld ?_
      refine tk_ 10 60 (bm_ 13 2047) HT_.out HW_.out hHeld ?_
      refine pu_ 11 61 (bm_ 13 4095) HT_.out ?_
      refine last_ (i := 12) (N := none) (bm_ 13 8191) rfl rfl (one_of HT_.out (by kernel_rfl)) (by decide) (fun K hK => ?_)
      refine skip_ (w1 := ?_) (by rfl) rfl ?_ ?_
      rotate_left
      ·go_simp
       rfl
      refine hK.out _ _ ?_
      clear hK K
      refine done_ (done_of HT_.out (by kernel_rfl)) ?_
      try go_wp2
      (try simp only [← hl8_2])
      go_roundg k2
      case measure => have := HK1.out; have := HK2.out; omega
      case rel => exact ⟨(y663), (wrap64 (x10_2 + 1)), ns_, H', ⟨by have := HK1.out; have := HK2.out; omega⟩, ⟨by (try simp only [hl8_2]); (with_reducible repeat (first | apply Kd.R_alloc | apply Kd.R_drewN | apply Kd.R_drew)); exact Kd.R_mono (Kd.R_far (p := ⟨go22, (((rd_T33 l0_1 x10_2).f1) : Int).toNat, none⟩) (Kd.R_mono HO_7.out (fun k_ hk => (⟨hk, fun e_ => hk (by rw [e_]; rfl)⟩ : _ ∧ k_ ≠ go22))) (fun _ hk => hk.2) (.int .i64 (rd t650 x10_2))) (fun _ hk => hk.1)⟩, ⟨by (try simp only [hl8_2]); (with_reducible repeat (first | apply Kd.R_alloc | apply Kd.R_drewN | apply Kd.R_drew)); exact HQ36.out⟩, ⟨by (try simp only [hl8_2]); (with_reducible repeat (first | refine blk_drewN ?_ _ | refine blk_drew ?_ | refine blk_alloc ?_ _)); refine blk_far ?_ (by have h_ := Kd.R_ne HO_8.out BK649.out (by decide); intro e_; exact h_ (by rw [e_]; rfl)) _; (with_reducible repeat (first | refine blk_drewN ?_ _ | refine blk_drew ?_ | refine blk_alloc ?_ _)); exact BK649.out⟩, ⟨ne_ HB.out⟩⟩
end Go.Proofs.Ytcfmejfmjjgoaaa.Print
