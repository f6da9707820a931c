-- Made by this session's own program (wip/patch_print.py, over the kit's print). Lean checks it.
import Derived.Test.YtcfmejfmjjgoaaaPrint0
import Derived.Test.YtcfmejfmjjgoaaaPrintB
namespace Go.Proofs.Ytcfmejfmjjgoaaa.Print
open Go.RowKit Go.Proofs.YtcfmejfmjjgoaaaW.PrintWords Go.Proofs.YtcfmejfmjjgoaaaW.PrintLast Go.Proofs.YtcfmejfmjjgoaaaW.PrintMore Go.Proofs.YtcfmejfmjjgoaaaX
attribute [local go_sem] max2_int min2_int max_two min_two max_three min_three max_four min_four   -- for this text's walks alone
set_option linter.unusedVariables false
set_option linter.unusedSimpArgs false

abbrev z88_0 := bm_ 44 0
abbrev z88_1 := bm_ 44 1
abbrev z88_2 := bm_ 44 5
abbrev z88_3 := bm_ 44 69
abbrev z88_4 := bm_ 44 325
abbrev z88_5 := bm_ 44 327
abbrev z88_6 := bm_ 44 335
abbrev z88_7 := bm_ 44 351
abbrev z88_8 := bm_ 44 383
abbrev z88_9 := bm_ 44 511
abbrev z88_10 := bm_ 44 1023
abbrev z88_11 := bm_ 44 2047
abbrev z88_12 := bm_ 44 4095
abbrev z88_13 := bm_ 44 8191
abbrev z88_14 := bm_ 44 16383
abbrev z88_15 := bm_ 44 32767
abbrev z88_16 := bm_ 44 65535
abbrev z88_17 := bm_ 44 131071
abbrev z88_18 := bm_ 44 262143
abbrev z88_19 := bm_ 44 524287
abbrev z88_20 := bm_ 44 1048575
abbrev z88_21 := bm_ 44 2097151
abbrev z88_22 := bm_ 44 4194303
abbrev z88_23 := bm_ 44 8388607
abbrev z88_24 := bm_ 44 16777215
abbrev z88_25 := bm_ 44 33554431
abbrev z88_26 := bm_ 44 67108863
abbrev z88_27 := bm_ 44 134217727
abbrev z88_28 := bm_ 44 268435455
abbrev z88_29 := bm_ 44 805306367
abbrev z88_30 := bm_ 44 2952790015
abbrev z88_31 := bm_ 44 11542724607
abbrev z88_32 := bm_ 44 286420631551
abbrev z88_33 := bm_ 44 836176445439
abbrev z88_34 := bm_ 44 1935688073215
abbrev z88_35 := bm_ 44 1935956508671
abbrev z88_36 := bm_ 44 1937030250495
abbrev z88_37 := bm_ 44 1941325217791
abbrev z88_38 := bm_ 44 1958505086975
abbrev z88_39 := bm_ 44 1992864825343
abbrev z88_40 := bm_ 44 2061584302079
abbrev z88_41 := bm_ 44 2199023255551
abbrev z88_42 := bm_ 44 4398046511103
abbrev z88_43 := bm_ 44 8796093022207
abbrev z88_44 := bm_ 44 17592186044415
abbrev z88_45 := bm_ 44 536870911
abbrev z88_46 := bm_ 44 1073741823
abbrev z88_47 := bm_ 44 2147483647
abbrev z88_48 := bm_ 44 4294967295
abbrev z88_49 := bm_ 44 8589934591
abbrev z88_50 := bm_ 44 17179869183
abbrev z88_51 := bm_ 44 34359738367
abbrev z88_52 := bm_ 44 68719476735
abbrev z88_53 := bm_ 44 137438953471
abbrev z88_54 := bm_ 44 274877906943
abbrev z88_55 := bm_ 44 549755813887
abbrev z88_56 := bm_ 44 1099511627775
/-! ### spec_l4Arcs: function 88 -/
mutual
def spec_l4Arcs.l0 : Nat → List (S31) → Int → List Int → Int → Int → List (S33) → Option (List Int)
  | 0, _, _, _, _, _, _ => none
  | k + 1, x1, x2, x7, x8, x632000, x632001 => if x8 < (x632001.length : Int) then (if 0 ≤ x8 then (if x8 < (x7.length : Int) then ((some (x7.set (x8 : Int).toNat 99999 : List Int)).bind fun y635 => (if ((rd_T33 x632001 x8).f0) = x2 then (spec_l4Arcs.l0 k x1 x2 (y635.set (x8 : Int).toNat ((rd_T33 x632001 x8).f2)) (wrap64 (x8 + 1)) x632000 x632001) else (spec_l4Arcs.l0 k x1 x2 y635 (wrap64 (x8 + 1)) x632000 x632001))) else (none)) else (none)) else (spec_l4Arcs.l1 k x1 x7 0 x632000 x632001)
def spec_l4Arcs.l1 : Nat → List (S31) → List Int → Int → Int → List (S33) → Option (List Int)
  | 0, _, _, _, _, _ => none
  | k + 1, x1, x7, x9, x632000, x632001 => if x9 < (x632001.length : Int) then (spec_l4Arcs.l2 k x1 x7 x9 0 x632000 x632001) else (some x7)
def spec_l4Arcs.l2 : Nat → List (S31) → List Int → Int → Int → Int → List (S33) → Option (List Int)
  | 0, _, _, _, _, _, _ => none
  | k + 1, x1, x7, x9, x10, x632000, x632001 => if x10 < (x632001.length : Int) then (spec_l4Arcs.l3 k x1 x7 x9 x10 0 x632000 x632001) else (spec_l4Arcs.l1 k x1 x7 (wrap64 (x9 + 1)) x632000 x632001)
def spec_l4Arcs.l3 : Nat → List (S31) → List Int → Int → Int → Int → Int → List (S33) → Option (List Int)
  | 0, _, _, _, _, _, _, _ => none
  | k + 1, x1, x7, x9, x10, x11, x632000, x632001 => if x11 < (x632001.length : Int) then ((spec_l4Cost.f k x1 x10 x11).bind fun t639 => (if 0 ≤ x10 then (if x10 < (x632001.length : Int) then (if 0 ≤ x11 then (if ((rd_T33 x632001 x10).f1) = ((rd_T33 x632001 x11).f0) then (if t639 ≥ 0 then (if x10 < (x7.length : Int) then (if (rd x7 x10) < 99999 then (if x11 < (x7.length : Int) then (if (wrap64 ((wrap64 ((rd x7 x10) + t639)) + ((rd_T33 x632001 x11).f2))) < (rd x7 x11) then (spec_l4Arcs.l3 k x1 (x7.set (x11 : Int).toNat (wrap64 ((wrap64 ((rd x7 x10) + t639)) + ((rd_T33 x632001 x11).f2)))) x9 x10 (wrap64 (x11 + 1)) x632000 x632001) else (spec_l4Arcs.l3 k x1 x7 x9 x10 (wrap64 (x11 + 1)) x632000 x632001)) else (none)) else (spec_l4Arcs.l3 k x1 x7 x9 x10 (wrap64 (x11 + 1)) x632000 x632001)) else (none)) else (spec_l4Arcs.l3 k x1 x7 x9 x10 (wrap64 (x11 + 1)) x632000 x632001)) else (spec_l4Arcs.l3 k x1 x7 x9 x10 (wrap64 (x11 + 1)) x632000 x632001)) else (none)) else (none)) else (none))) else (spec_l4Arcs.l2 k x1 x7 x9 (wrap64 (x10 + 1)) x632000 x632001)
end
def spec_l4Arcs.f (k : Nat) (a0_0 : Int) (l0_1 : List (S33)) (l1 : List (S31)) (a2 : Int) : Option (List Int) := if 0 ≤ (l0_1.length : Int) then (if ((l0_1.length : Int) : Int).toNat ≤ 35184372088832 then (spec_l4Arcs.l0 k l1 a2 (List.replicate ((l0_1.length : Int) : Int).toNat 0) 0 a0_0 l0_1) else (none)) else (none)
def spec_l4Arcs.T18 : Bool × List (List Nat × List Nat) := (true, [([], []), ([0], [0]), ([], []), ([1, 2], [1, 2]), ([3], [3]), ([4], [4]), ([], []), ([6], [6]), ([], []), ([7, 8], [7, 8]), ([9], [9]), ([10], [10]), ([5, 11], [5, 11]), ([12], [12]), ([13], [13]), ([14, 13], [13, 14]), ([13, 15], [13, 15]), ([16, 13], [16]), ([17], [17]), ([17], [17]), ([18, 19, 17], [17, 18, 19]), ([20, 17], [17, 20]), ([21, 17], [17, 21]), ([17, 22], [17, 22]), ([23, 17], [23]), ([24], [24]), ([24], [24]), ([25, 26, 24], [24, 25, 26]), ([27, 24], [24, 27]), ([24], [24]), ([28, 29, 24], [24, 28, 29]), ([24], [24]), ([31, 24], [24, 31]), ([24], [24]), ([32, 33, 24], [24, 32, 33]), ([34, 24], [24, 34]), ([35, 24], [24, 35]), ([30, 36, 24], [24, 30, 36]), ([24], [24]), ([24], [24]), ([38, 39, 24], [24, 38, 39]), ([40, 24], [24, 40]), ([37, 41, 24], [24, 37, 41]), ([24, 42], [24, 42])])
def spec_l4Arcs.B18 : List Nat := [0, 1, 0, 7, 15, 31, 0, 64, 0, 448, 960, 1984, 4095, 8191, 16383, 32767, 65535, 131071, 262143, 262143, 1048575, 2097151, 4194303, 8388607, 16777215, 33554431, 33554431, 134217727, 268435455, 33554431, 1073741823, 33554431, 2181038079, 33554431, 15065939967, 32245809151, 66605547519, 137438953471, 33554431, 33554431, 824667275263, 1924178903039, 4398046511103, 8796093022207]
theorem spec_l4Arcs.tab18 : rtab .any (opsOf Try.f88 18) = spec_l4Arcs.T18 := by kernel_rfl
theorem spec_l4Arcs.bits18 : waitsOk spec_l4Arcs.T18.2 spec_l4Arcs.B18 = true := by kernel_rfl
def spec_l4Arcs.T19 : Bool × List (List Nat × List Nat) := (true, [([], []), ([], []), ([], []), ([], []), ([2, 3], [2, 3]), ([4], [4]), ([], []), ([5, 6], [5, 6]), ([], []), ([8], [8]), ([], []), ([9, 10], [9, 10]), ([11], [11]), ([12], [12]), ([7, 13], [7, 13]), ([0, 1, 0, 1, 2, 3, 4, 5, 6, 7, 8, 9, 10, 11, 12, 13, 14], [0, 1]), ([15, 14, 0, 1, 2, 3, 4, 5, 6, 7, 8, 9, 10, 11, 12, 13, 14], [14, 15])])
def spec_l4Arcs.B19 : List Nat := [0, 0, 0, 0, 12, 28, 0, 124, 0, 256, 0, 1792, 3840, 7936, 16380, 32767, 65535]
theorem spec_l4Arcs.tab19 : rtab .any (opsOf Try.f88 19) = spec_l4Arcs.T19 := by kernel_rfl
theorem spec_l4Arcs.bits19 : waitsOk spec_l4Arcs.T19.2 spec_l4Arcs.B19 = true := by kernel_rfl
set_option maxHeartbeats 200000000 in
set_option maxRecDepth 100000 in
theorem spec_l4Arcs.calls (k : Nat) (a0_0 : Int) (A0_1 : Option Addr) (c0_1 : Nat) (l0_1 : List (S33)) (A1 : Option Addr) (c1 : Nat) (l1 : List (S31)) (a2 : Int) (r : List Int) (w : World) (hr0_1 : Kd.C k33 w A0_1 l0_1.length l0_1) (hc0_1 : l0_1.length ≤ c0_1) (hr1 : Kd.C k31 w A1 l1.length l1) (hc1 : l1.length ≤ c1) (h : spec_l4Arcs.f k a0_0 l0_1 l1 a2 = some r) :
    Calls Try.prog 88 #[.agg #[.int .i64 a0_0, .slice A0_1 l0_1.length c0_1], .slice A1 l1.length c1, .int .i64 a2] w fun e w' => ∃ v0_ : Value, e = .returned (v0_) ∧ Kd.R (Kd.int .i64) 3 w' w.heap.size (fun _ => True) v0_ r ∧ Below w.heap.size w w' := by
  have hu25 := Try.underlying25
  have HR0_1 := Aside0.mk hr0_1
  have HC0_1 := Aside0.mk hc0_1
  clear hr0_1 hc0_1
  have HR1 := Aside0.mk hr1
  have HC1 := Aside0.mk hc1
  clear hr1 hc1
  have HB := Aside0.mk (Below.refl w.heap.size w)
  have H : (if 0 ≤ (l0_1.length : Int) then (if ((l0_1.length : Int) : Int).toNat ≤ 35184372088832 then (spec_l4Arcs.l0 k l1 a2 (List.replicate ((l0_1.length : Int) : Int).toNat 0) 0 a0_0 l0_1) else (none)) else (none)) = some r := h
  clear h
  by_cases c4 : 0 ≤ (l0_1.length : Int)
  rotate_left
  ·rw [if_neg c4] at H
   exact absurd H (by simp)

  rw [if_pos c4] at H
  have c4b0 := eq_true c4
  have c4b1 : decide (0 ≤ (l0_1.length : Int)) = true := decide_eq_true c4
  clear c4
  by_cases c5 : ((l0_1.length : Int) : Int).toNat ≤ 35184372088832
  rotate_left
  ·rw [if_neg c5] at H
   exact absurd H (by simp)
  rw [if_pos c5] at H
  have c5b0 := eq_true c5
  have c5b1 : decide (((l0_1.length : Int) : Int).toNat ≤ 35184372088832) = true := decide_eq_true c5
  clear c5
  obtain ⟨y632, hy632⟩ : ∃ y_ : List Int, y_ = (List.replicate ((l0_1.length : Int) : Int).toNat 0) := ⟨_, rfl⟩
  replace H : (spec_l4Arcs.l0 k l1 a2 y632 0 a0_0 l0_1) = some r := by first | (rw [hy632]; with_reducible exact H) | (have H2_ := (Option.bind_some _ _).symm.trans H; rw [hy632]; with_reducible exact H2_) | (have H2_ := (Option.bind_some _ _).symm.trans H; with_reducible exact H2_) | with_reducible exact H | (rw [hy632]; exact H) | exact H
  have Ny632 := Aside0.mk hy632
  clear hy632
  have H' := Aside0.mk H
  clear H
  go_enter Try.func88, Try.ntmps88
  go_wp2_with (first | ((with_reducible refine gate_dst (N := 3) rfl ?_); refine bx_ 3 #[.int .i64 a0_0, .slice A0_1 l0_1.length c0_1] 25 ?_; intro gb631 hg w6 hbox hb; have BK631 := Aside0.mk (hbox); have GW631 := Aside0.mk (zs_ hg (ne_ HB.out)); have GE631 := Aside0.mk (zs_ hg (ne_ HB.out)); replace HB := kB_ HB hb; clear hb hbox hg; obtain ⟨hcz7_0, hcz7_1, hfz7_0, hfz7_1⟩ := cz2_ BK631.out) | ((with_reducible refine gate_dst (N := 16) rfl ?_); refine Kd.R_make (Kd.int .i64) _ 3 rfl (N := 16) rfl 46 _ _ rfl (l0_1.length : Int) rfl rfl Try.underlying46 (.int .i64 0) 8 info3 rfl (by decide) (by omega) 0 (ok := fun _ => True) (okp := fun _ => True) rfl (fun _ hk => hk) trivial (of_decide_eq_true nx_) (Nat.le_trans (Nat.mul_le_mul_right _ (of_decide_eq_true nx_ : (l0_1.length : Int).toNat ≤ 35184372088832)) (by omega)) (Below.refl _ _) (Nat.le_refl _) ?_; intro v633 w8 ho9 hb hg_ hnew_; clear hg_ hnew_; (first | rw [← Ny632.out] at ho9 | (simp only [Int.reduceToNat] at ho9; rw [← Ny632.out] at ho9)); have HO634 := Aside0.mk (Kd.R_lower ho9 (below_size (ne_ HB.out))); replace BK631 := kb_ BK631 hb; replace HB := kB_ HB hb; clear hb ho9))
  go_loopg [8] k (fun kq v8 w' => ∃ (x7_1 : List Int) (x8_1 : Int), v8 = .int .i64 x8_1 ∧ Aside0 (spec_l4Arcs.l0 kq l1 a2 x7_1 x8_1 a0_0 l0_1 = some r) ∧ Aside0 (kq ≤ k) ∧ Aside0 (Kd.R (Kd.int .i64) 3 w' w.heap.size (fun _ => True) v633 x7_1) ∧ Aside0 (w'.heap[gb631]? = some (.cells #[.int .i64 a0_0, (.slice A0_1 l0_1.length c0_1)] 25 (0, 0))) ∧ Aside0 (Below w.heap.size w w'))
  case atStart => exact ⟨(y632), (0), ns_, H', ⟨Nat.le_refl _⟩, ⟨nr_ HO634.out⟩, ⟨nb_ BK631.out⟩, ⟨ne_ HB.out⟩⟩
  case round =>
   clear H'
   try clear c1
   try clear c4
   try clear c4b0
   try clear c4b1
   try clear c5
   try clear c5b0
   try clear c5b1
   try clear hcz7_0
   try clear hcz7_1
   try clear hfz7_0
   try clear hfz7_1
   obtain ⟨x7_1, x8_1, rfl, HA, HK1, HO_7, BK631, HB⟩ := hrel
   cases gk with
   | zero => exact absurd HA.out (by simp [spec_l4Arcs.l0])
   | succ k1 =>
    have H := HA.out
    clear HA
    simp only [spec_l4Arcs.l0] at H
    by_cases c10 : x8_1 < (l0_1.length : Int)
    ·rw [if_pos c10] at H
     have c10b0 : decide (x8_1 < (l0_1.length : Int)) = true := decide_eq_true c10
     clear c10
     by_cases c11 : 0 ≤ x8_1
     rotate_left
     ·rw [if_neg c11] at H
      exact absurd H (by simp)
     rw [if_pos c11] at H
     have c11b0 : decide (0 ≤ x8_1) = true := decide_eq_true c11
     clear c11
     by_cases c12 : x8_1 < (x7_1.length : Int)
     rotate_left
     ·rw [if_neg c12] at H
      exact absurd H (by simp)
     rw [if_pos c12] at H
     have c12b0 : decide (x8_1 < (x7_1.length : Int)) = true := decide_eq_true c12
     clear c12
     obtain ⟨y635, hy635⟩ : ∃ y_ : List Int, y_ = (x7_1.set (x8_1 : Int).toNat 99999) := ⟨_, rfl⟩
     replace H : (if ((rd_T33 l0_1 x8_1).f0) = a2 then (spec_l4Arcs.l0 k1 l1 a2 (y635.set (x8_1 : Int).toNat ((rd_T33 l0_1 x8_1).f2)) (wrap64 (x8_1 + 1)) a0_0 l0_1) else (spec_l4Arcs.l0 k1 l1 a2 y635 (wrap64 (x8_1 + 1)) a0_0 l0_1)) = some r := by first | (rw [hy635]; with_reducible exact H) | (have H2_ := (Option.bind_some _ _).symm.trans H; rw [hy635]; with_reducible exact H2_) | (have H2_ := (Option.bind_some _ _).symm.trans H; with_reducible exact H2_) | with_reducible exact H | (rw [hy635]; exact H) | exact H
     have Ny635 := Aside0.mk hy635
     clear hy635
     by_cases c14 : ((rd_T33 l0_1 x8_1).f0) = a2
     rotate_left
     ·rw [if_neg c14] at H
      have c14b0 : (((rd_T33 l0_1 x8_1).f0) == a2) = false := beq_eq_false_iff_ne.mpr c14
      have c14b1 : (((rd_T33 l0_1 x8_1).f0) != a2) = true := bne_iff_ne.mpr c14
      have H' := Aside0.mk H
      clear H
      obtain ⟨hcz22_0, hcz22_1, hfz22_0, hfz22_1⟩ := cz2_ BK631.out
      have p13 : 0 ≤ (x8_1 : Int) := of_decide_eq_true nx_
      have q13 : (x8_1 : Int) < ((x7_1.length : Int) : Int) := of_decide_eq_true nx_
      obtain ⟨go13, co13, eo13, gb13, gl13, cl13, HG13⟩ := Kd.R_form HO_7.out (by omega)
      (first | cases eo13 | (injection eo13 with ea_ en_ ec_; (first | subst ea_ | (injection ea_ with ea_; subst ea_)); subst ec_; clear en_))
      have GB13 := Aside0.mk gb13
      have GG13 := Aside0.mk HG13
      clear gb13 gl13 HG13
      obtain ⟨hx13_0, hf13_0⟩ := Kd.R_celln 0 HO_7.out (x8_1 : Int) p13 q13
      replace p13 := eq_true p13
      replace q13 := eq_true q13
      have HP23 := Kd.R_putg HO_7.out (x8_1 : Int) 99999
      go_wp2_with (first | ((with_reducible refine gate_store (t := 3) (p := 26) rfl ?_); refine store_event (t := 3) (p := 26) (v := ?vo_w24) (w1 := (wr.setCell ⟨go13, (x8_1 : Int).toNat, none⟩ (.int .i64 99999))) ?hg ?ho ?hn ?hr ?_; (case ho => rfl); (case hg => rfl); (case hn => rfl); (case hr => first | (go_simp; done) | (go_simp; rfl)); intro w24 hw; have hg : wr.grownBy w24 (some go13) := (by rw [hw]; exact HP23.2); have hp_ : Kd.R (Kd.int .i64) 3 w24 w.heap.size (fun _ => True) (.slice (some ⟨go13, 0, none⟩) x7_1.length co13) y635 := (by rw [hw, Ny635.out]; exact HP23.1); clear HP23; replace BK631 := Aside0.mk (blk_grown (g := gb631) (o := .cells #[.int .i64 a0_0, .slice A0_1 l0_1.length c0_1] 25 (0, 0)) (nb_ BK631.out) hg (Kd.R_ne HO_7.out BK631.out (by decide))); replace HO_7 := Aside0.mk (hp_); replace HB := Aside0.mk ((by rw [hw]; exact below_set (HB.out) GB13.out : Below w.heap.size w w24)); clear hg hw hp_; obtain ⟨hcz25_0, hcz25_1, hfz25_0, hfz25_1⟩ := cz2_ BK631.out; have p636 : 0 ≤ (x8_1 : Int) := of_decide_eq_true nx_; have q636 : x8_1 < (l0_1.length : Int) := of_decide_eq_true nx_; obtain ⟨ad636, e636, hx636_0, hx636_1, hx636_2, hx636_3, hx636_4⟩ := at_T33 HR0_1.out x8_1 p636 q636; cases e636; replace hx636_0 := hb_ HB.out hx636_0; replace hx636_1 := hb_ HB.out hx636_1; replace hx636_2 := hb_ HB.out hx636_2; replace hx636_3 := hb_ HB.out hx636_3; replace hx636_4 := hb_ HB.out hx636_4; replace p636 := eq_true p636; replace q636 := eq_true q636))
      go_roundg k1
      case measure => have := HK1.out; omega
      case rel => exact ⟨(y635), (wrap64 (x8_1 + 1)), ns_, H', ⟨by have := HK1.out; omega⟩, ⟨nr_ HO_7.out⟩, ⟨nb_ BK631.out⟩, ⟨ne_ HB.out⟩⟩
     rw [if_pos c14] at H
     have c14b0 : (((rd_T33 l0_1 x8_1).f0) == a2) = true := beq_iff_eq.mpr c14
     have c14b1 : (((rd_T33 l0_1 x8_1).f0) != a2) = false := bne_eq_false_iff_eq.mpr c14
     clear c14
     obtain ⟨y638, hy638⟩ : ∃ y_ : List Int, y_ = (y635.set (x8_1 : Int).toNat ((rd_T33 l0_1 x8_1).f2)) := ⟨_, rfl⟩
     replace H : (spec_l4Arcs.l0 k1 l1 a2 y638 (wrap64 (x8_1 + 1)) a0_0 l0_1) = some r := by first | (rw [hy638]; with_reducible exact H) | (have H2_ := (Option.bind_some _ _).symm.trans H; rw [hy638]; with_reducible exact H2_) | (have H2_ := (Option.bind_some _ _).symm.trans H; with_reducible exact H2_) | with_reducible exact H | (rw [hy638]; exact H) | exact H
     have Ny638 := Aside0.mk hy638
     clear hy638
     have H' := Aside0.mk H
     clear H
     obtain ⟨hcz16_0, hcz16_1, hfz16_0, hfz16_1⟩ := cz2_ BK631.out
     have p13 : 0 ≤ (x8_1 : Int) := of_decide_eq_true nx_
     have q13 : (x8_1 : Int) < ((x7_1.length : Int) : Int) := of_decide_eq_true nx_
     obtain ⟨go13, co13, eo13, gb13, gl13, cl13, HG13⟩ := Kd.R_form HO_7.out (by omega)
     (first | cases eo13 | (injection eo13 with ea_ en_ ec_; (first | subst ea_ | (injection ea_ with ea_; subst ea_)); subst ec_; clear en_))
     have GB13 := Aside0.mk gb13
     have GG13 := Aside0.mk HG13
     clear gb13 gl13 HG13
     obtain ⟨hx13_0, hf13_0⟩ := Kd.R_celln 0 HO_7.out (x8_1 : Int) p13 q13
     replace p13 := eq_true p13
     replace q13 := eq_true q13
     have HP17 := Kd.R_putg HO_7.out (x8_1 : Int) 99999
     go_wp2_with (first | ((with_reducible refine gate_store (t := 3) (p := 26) rfl ?_); refine store_event (t := 3) (p := 26) (v := ?vo_w18) (w1 := (wr.setCell ⟨go13, (x8_1 : Int).toNat, none⟩ (.int .i64 99999))) ?hg ?ho ?hn ?hr ?_; (case ho => rfl); (case hg => rfl); (case hn => rfl); (case hr => first | (go_simp; done) | (go_simp; rfl)); intro w18 hw; have hg : wr.grownBy w18 (some go13) := (by rw [hw]; exact HP17.2); have hp_ : Kd.R (Kd.int .i64) 3 w18 w.heap.size (fun _ => True) (.slice (some ⟨go13, 0, none⟩) x7_1.length co13) y635 := (by rw [hw, Ny635.out]; exact HP17.1); clear HP17; replace BK631 := Aside0.mk (blk_grown (g := gb631) (o := .cells #[.int .i64 a0_0, .slice A0_1 l0_1.length c0_1] 25 (0, 0)) (nb_ BK631.out) hg (Kd.R_ne HO_7.out BK631.out (by decide))); replace HO_7 := Aside0.mk (hp_); replace HB := Aside0.mk ((by rw [hw]; exact below_set (HB.out) GB13.out : Below w.heap.size w w18)); clear hg hw hp_; obtain ⟨hcz19_0, hcz19_1, hfz19_0, hfz19_1⟩ := cz2_ BK631.out; have p636 : 0 ≤ (x8_1 : Int) := of_decide_eq_true nx_; have q636 : x8_1 < (l0_1.length : Int) := of_decide_eq_true nx_; obtain ⟨ad636, e636, hx636_0, hx636_1, hx636_2, hx636_3, hx636_4⟩ := at_T33 HR0_1.out x8_1 p636 q636; cases e636; replace hx636_0 := hb_ HB.out hx636_0; replace hx636_1 := hb_ HB.out hx636_1; replace hx636_2 := hb_ HB.out hx636_2; replace hx636_3 := hb_ HB.out hx636_3; replace hx636_4 := hb_ HB.out hx636_4; replace p636 := eq_true p636; replace q636 := eq_true q636; have p637 : 0 ≤ (x8_1 : Int) := of_decide_eq_true nx_; have q637 : x8_1 < (l0_1.length : Int) := of_decide_eq_true nx_; obtain ⟨ad637, e637, hx637_0, hx637_1, hx637_2, hx637_3, hx637_4⟩ := at_T33 HR0_1.out x8_1 p637 q637; obtain rfl : ad636 = ad637 := (by injection e637); replace hx637_0 := hb_ HB.out hx637_0; replace hx637_1 := hb_ HB.out hx637_1; replace hx637_2 := hb_ HB.out hx637_2; replace hx637_3 := hb_ HB.out hx637_3; replace hx637_4 := hb_ HB.out hx637_4; replace p637 := eq_true p637; replace q637 := eq_true q637; have p15 : 0 ≤ (x8_1 : Int) := of_decide_eq_true nx_; have q15 : (x8_1 : Int) < ((x7_1.length : Int) : Int) := of_decide_eq_true nx_; obtain ⟨hx15_0, hf15_0⟩ := Kd.R_celln 0 HO_7.out (x8_1 : Int) p15 q15; replace p15 := eq_true p15; replace q15 := eq_true q15; obtain ⟨hy20_, hz20_⟩ := Kd.R_celln 0 HO_7.out (x8_1 : Int) (of_decide_eq_true nx_) (of_decide_eq_true nx_); have HP20 := Kd.R_putg HO_7.out (x8_1 : Int) ((rd_T33 l0_1 x8_1).f2)) | ((with_reducible refine gate_store (t := 3) (p := 43) rfl ?_); refine store_event (t := 3) (p := 43) (v := ?vo_w21) (w1 := (w18.setCell ⟨go13, (x8_1 : Int).toNat, none⟩ (.int .i64 ((rd_T33 l0_1 x8_1).f2)))) ?hg ?ho ?hn ?hr ?_; (case ho => rfl); (case hg => rfl); (case hn => rfl); (case hr => first | (go_simp; done) | (go_simp; rfl)); intro w21 hw; have hg : w18.grownBy w21 (some go13) := (by rw [hw]; exact HP20.2); have hp_ : Kd.R (Kd.int .i64) 3 w21 w.heap.size (fun _ => True) (.slice (some ⟨go13, 0, none⟩) x7_1.length co13) y638 := (by rw [hw, Ny638.out]; exact HP20.1); clear HP20; replace BK631 := Aside0.mk (blk_grown (g := gb631) (o := .cells #[.int .i64 a0_0, .slice (some ad636) l0_1.length c0_1] 25 (0, 0)) (nb_ BK631.out) hg (Kd.R_ne HO_7.out BK631.out (by decide))); replace HO_7 := Aside0.mk (hp_); replace HB := Aside0.mk ((by rw [hw]; exact below_set (HB.out) GB13.out : Below w.heap.size w w21)); clear hg hw hp_))
     go_roundg k1
     case measure => have := HK1.out; omega
     case rel => exact ⟨(y638), (wrap64 (x8_1 + 1)), ns_, H', ⟨by have := HK1.out; omega⟩, ⟨nr_ HO_7.out⟩, ⟨nb_ BK631.out⟩, ⟨ne_ HB.out⟩⟩
    rw [if_neg c10] at H
    have c10b0 : decide (x8_1 < (l0_1.length : Int)) = false := decide_eq_false c10
    clear c10
    have H' := Aside0.mk H
    clear H
    obtain ⟨hcz26_0, hcz26_1, hfz26_0, hfz26_1⟩ := cz2_ BK631.out
    go_wp2
    go_loopg [9] k1 (fun kq v9 w' => ∃ (x7_2 : List Int) (x9_2 : Int), v9 = .int .i64 x9_2 ∧ Aside0 (spec_l4Arcs.l1 kq l1 x7_2 x9_2 a0_0 l0_1 = some r) ∧ Aside0 (kq ≤ k1) ∧ Aside0 (Kd.R (Kd.int .i64) 3 w' w.heap.size (fun _ => True) v633 x7_2) ∧ Aside0 (w'.heap[gb631]? = some (.cells #[.int .i64 a0_0, (.slice A0_1 l0_1.length c0_1)] 25 (0, 0))) ∧ Aside0 (Below w.heap.size w w'))
    case atStart => exact ⟨(x7_1), (0), ns_, H', ⟨Nat.le_refl _⟩, ⟨nr_ HO_7.out⟩, ⟨nb_ BK631.out⟩, ⟨ne_ HB.out⟩⟩
    case round =>
     clear H'
     try clear c1
     try clear c4
     try clear c4b0
     try clear c4b1
     try clear c5
     try clear c5b0
     try clear c5b1
     try clear c10
     try clear c10b0
     try clear hcz26_0
     try clear hcz26_1
     try clear hcz7_0
     try clear hcz7_1
     try clear hfz26_0
     try clear hfz26_1
     try clear hfz7_0
     try clear hfz7_1
     obtain ⟨x7_2, x9_2, rfl, HA, HK2, HO_7, BK631, HB⟩ := hrel
     cases gk with
     | zero => exact absurd HA.out (by simp [spec_l4Arcs.l1])
     | succ k2 =>
      have H := HA.out
      clear HA
      simp only [spec_l4Arcs.l1] at H
      by_cases c27 : x9_2 < (l0_1.length : Int)
      rotate_left
      ·rw [if_neg c27] at H
       have c27b0 : decide (x9_2 < (l0_1.length : Int)) = false := decide_eq_false c27
       clear c27
       obtain rfl := Option.some.inj H
       obtain ⟨hcz60_0, hcz60_1, hfz60_0, hfz60_1⟩ := cz2_ BK631.out
       go_wp2
       go_ret
       exact ⟨_, nw_, nr_ HO_7.out, ne_ HB.out⟩
      rw [if_pos c27] at H
      have c27b0 : decide (x9_2 < (l0_1.length : Int)) = true := decide_eq_true c27
      clear c27
      have H' := Aside0.mk H
      clear H
      obtain ⟨hcz28_0, hcz28_1, hfz28_0, hfz28_1⟩ := cz2_ BK631.out
      go_wp2
      go_loopg [10] k2 (fun kq v10 w' => ∃ (x7_3 : List Int) (x10_3 : Int), v10 = .int .i64 x10_3 ∧ Aside0 (spec_l4Arcs.l2 kq l1 x7_3 x9_2 x10_3 a0_0 l0_1 = some r) ∧ Aside0 (kq ≤ k2) ∧ Aside0 (Kd.R (Kd.int .i64) 3 w' w.heap.size (fun _ => True) v633 x7_3) ∧ Aside0 (w'.heap[gb631]? = some (.cells #[.int .i64 a0_0, (.slice A0_1 l0_1.length c0_1)] 25 (0, 0))) ∧ Aside0 (Below w.heap.size w w'))
      case atStart => exact ⟨(x7_2), (0), ns_, H', ⟨Nat.le_refl _⟩, ⟨nr_ HO_7.out⟩, ⟨nb_ BK631.out⟩, ⟨ne_ HB.out⟩⟩
      case round =>
       clear H'
       try clear c1
       try clear c4
       try clear c4b0
       try clear c4b1
       try clear c5
       try clear c5b0
       try clear c5b1
       try clear c10
       try clear c10b0
       try clear c27
       try clear c27b0
       try clear hcz26_0
       try clear hcz26_1
       try clear hcz28_0
       try clear hcz28_1
       try clear hcz7_0
       try clear hcz7_1
       try clear hfz26_0
       try clear hfz26_1
       try clear hfz28_0
       try clear hfz28_1
       try clear hfz7_0
       try clear hfz7_1
       obtain ⟨x7_3, x10_3, rfl, HA, HK3, HO_7, BK631, HB⟩ := hrel
       cases gk with
       | zero => exact absurd HA.out (by simp [spec_l4Arcs.l2])
       | succ k3 =>
        have H := HA.out
        clear HA
        simp only [spec_l4Arcs.l2] at H
        by_cases c29 : x10_3 < (l0_1.length : Int)
        rotate_left
        ·rw [if_neg c29] at H
         have c29b0 : decide (x10_3 < (l0_1.length : Int)) = false := decide_eq_false c29
         clear c29
         have H' := Aside0.mk H
         clear H
         obtain ⟨hcz59_0, hcz59_1, hfz59_0, hfz59_1⟩ := cz2_ BK631.out
         go_wp2
         go_roundg k3
         case measure => have := HK1.out; have := HK2.out; have := HK3.out; omega
         case rel => exact ⟨(x7_3), (wrap64 (x9_2 + 1)), ns_, H', ⟨by have := HK1.out; have := HK2.out; have := HK3.out; omega⟩, ⟨nr_ HO_7.out⟩, ⟨nb_ BK631.out⟩, ⟨ne_ HB.out⟩⟩
        rw [if_pos c29] at H
        have c29b0 : decide (x10_3 < (l0_1.length : Int)) = true := decide_eq_true c29
        clear c29
        have H' := Aside0.mk H
        clear H
        obtain ⟨hcz30_0, hcz30_1, hfz30_0, hfz30_1⟩ := cz2_ BK631.out
        go_wp2
        go_loopg [11] k3 (fun kq v11 w' => ∃ (x7_4 : List Int) (x11_4 : Int), v11 = .int .i64 x11_4 ∧ Aside0 (spec_l4Arcs.l3 kq l1 x7_4 x9_2 x10_3 x11_4 a0_0 l0_1 = some r) ∧ Aside0 (kq ≤ k3) ∧ Aside0 (Kd.R (Kd.int .i64) 3 w' w.heap.size (fun _ => True) v633 x7_4) ∧ Aside0 (w'.heap[gb631]? = some (.cells #[.int .i64 a0_0, (.slice A0_1 l0_1.length c0_1)] 25 (0, 0))) ∧ Aside0 (Below w.heap.size w w'))
        case atStart => exact ⟨(x7_3), (0), ns_, H', ⟨Nat.le_refl _⟩, ⟨nr_ HO_7.out⟩, ⟨nb_ BK631.out⟩, ⟨ne_ HB.out⟩⟩
        case round =>
         clear H'
         try clear c1
         try clear c4
         try clear c4b0
         try clear c4b1
         try clear c5
         try clear c5b0
         try clear c5b1
         try clear c10
         try clear c10b0
         try clear c27
         try clear c27b0
         try clear c29
         try clear c29b0
         try clear hcz26_0
         try clear hcz26_1
         try clear hcz28_0
         try clear hcz28_1
         try clear hcz30_0
         try clear hcz30_1
         try clear hcz7_0
         try clear hcz7_1
         try clear hfz26_0
         try clear hfz26_1
         try clear hfz28_0
         try clear hfz28_1
         try clear hfz30_0
         try clear hfz30_1
         try clear hfz7_0
         try clear hfz7_1
         obtain ⟨x7_4, x11_4, rfl, HA, HK4, HO_7, BK631, HB⟩ := hrel
         cases gk with
         | zero => exact absurd HA.out (by simp [spec_l4Arcs.l3])
         | succ k4 =>
          have H := HA.out
          clear HA
          simp only [spec_l4Arcs.l3] at H
          by_cases c31 : x11_4 < (l0_1.length : Int)
          rotate_left
          ·rw [if_neg c31] at H
           have c31b0 : decide (x11_4 < (l0_1.length : Int)) = false := decide_eq_false c31
           clear c31
           have H' := Aside0.mk H
           clear H
           obtain ⟨hcz58_0, hcz58_1, hfz58_0, hfz58_1⟩ := cz2_ BK631.out
           go_wp2
           go_roundg k4
           case measure => have := HK1.out; have := HK2.out; have := HK3.out; have := HK4.out; omega
           case rel => exact ⟨(x7_4), (wrap64 (x10_3 + 1)), ns_, H', ⟨by have := HK1.out; have := HK2.out; have := HK3.out; have := HK4.out; omega⟩, ⟨nr_ HO_7.out⟩, ⟨nb_ BK631.out⟩, ⟨ne_ HB.out⟩⟩
          rw [if_pos c31] at H
          have c31b0 : decide (x11_4 < (l0_1.length : Int)) = true := decide_eq_true c31
          clear c31
          replace H := Option.bind_eq_some_iff.mp H
          obtain ⟨t639, A320, H⟩ := H
          try dsimp only at H
          have A32 := Aside0.mk A320
          clear A320
          by_cases c33 : 0 ≤ x10_3
          rotate_left
          ·rw [if_neg c33] at H
           exact absurd H (by simp)
          rw [if_pos c33] at H
          have c33b0 : decide (0 ≤ x10_3) = true := decide_eq_true c33
          clear c33
          by_cases c34 : x10_3 < (l0_1.length : Int)
          rotate_left
          ·rw [if_neg c34] at H
           exact absurd H (by simp)
          rw [if_pos c34] at H
          have c34b0 : decide (x10_3 < (l0_1.length : Int)) = true := decide_eq_true c34
          clear c34
          by_cases c35 : 0 ≤ x11_4
          rotate_left
          ·rw [if_neg c35] at H
           exact absurd H (by simp)
          rw [if_pos c35] at H
          have c35b0 : decide (0 ≤ x11_4) = true := decide_eq_true c35
          clear c35
          by_cases c36 : ((rd_T33 l0_1 x10_3).f1) = ((rd_T33 l0_1 x11_4).f0)
          rotate_left
          ·rw [if_neg c36] at H
           have c36b0 : (((rd_T33 l0_1 x10_3).f1) == ((rd_T33 l0_1 x11_4).f0)) = false := beq_eq_false_iff_ne.mpr c36
           have c36b1 : (((rd_T33 l0_1 x10_3).f1) != ((rd_T33 l0_1 x11_4).f0)) = true := bne_iff_ne.mpr c36
           have H' := Aside0.mk H
           clear H
           obtain ⟨hcz56_0, hcz56_1, hfz56_0, hfz56_1⟩ := cz2_ BK631.out
           try go_wp2_with (first | ((with_reducible refine gate_callee (f := 68) rfl ?_); refine gl_ (some 68) Try.func68 #[.slice A1 l1.length c1, .int .i64 x10_3, .int .i64 x11_4] ?_; (with_reducible refine (spec_l4Cost.calls k4 _ _ l1 x10_3 x11_4 t639 _ ?side1 ?side2 A32.out).mono ?_); (case side1 => exact nc_ (Kd.C_below HR1.out HB.out)); (case side2 => exact HC1.out); rintro e w' ⟨rfl, ⟨nd, rfl⟩⟩; refine ⟨_, rfl, ?_⟩))
           (first | (rw [drewN_self wr]; generalize hq_ : World.drewN wr _ = wr; replace HO_7 : Aside0 (Kd.R (Kd.int .i64) 3 wr w.heap.size (fun _ => True) v633 x7_4) := ⟨by rw [← hq_]; exact (nr_ HO_7.out)⟩; replace BK631 : Aside0 (wr.heap[gb631]? = some (.cells #[.int .i64 a0_0, .slice A0_1 l0_1.length c0_1] 25 (0, 0))) := ⟨by rw [← hq_]; exact (nb_ BK631.out)⟩; replace HB : Aside0 (Below w.heap.size w wr) := ⟨by rw [← hq_]; exact (ne_ HB.out)⟩; clear hq_) | (have n0_ : Aside0 (Kd.R (Kd.int .i64) 3 wr w.heap.size (fun _ => True) v633 x7_4) := ⟨(nr_ HO_7.out)⟩; have n1_ : Aside0 (wr.heap[gb631]? = some (.cells #[.int .i64 a0_0, .slice A0_1 l0_1.length c0_1] 25 (0, 0))) := ⟨(nb_ BK631.out)⟩; have n2_ : Aside0 (Below w.heap.size w wr) := ⟨(ne_ HB.out)⟩; clear HO_7 BK631 HB; have HO_7 := n0_; have BK631 := n1_; have HB := n2_; clear n0_ n1_ n2_))
           replace HO_7 := Aside0.mk (Kd.R_drew HO_7.out)
           replace BK631 := Aside0.mk (blk_drew BK631.out)
           replace HB := Aside0.mk (below_drew1 HB.out)
           have p640 : 0 ≤ (x10_3 : Int) := of_decide_eq_true nx_
           have q640 : x10_3 < (l0_1.length : Int) := of_decide_eq_true nx_
           obtain ⟨ad640, e640, hx640_0, hx640_1, hx640_2, hx640_3, hx640_4⟩ := at_T33 HR0_1.out x10_3 p640 q640
           have hw640_4 := hx640_4
           have hw640_3 := hx640_3
           have hw640_2 := hx640_2
           have hw640_1 := hx640_1
           have hw640_0 := hx640_0
           cases e640
           replace hx640_0 := hb_ HB.out hx640_0
           replace hx640_1 := hb_ HB.out hx640_1
           replace hx640_2 := hb_ HB.out hx640_2
           replace hx640_3 := hb_ HB.out hx640_3
           replace hx640_4 := hb_ HB.out hx640_4
           replace p640 := eq_true p640
           replace q640 := eq_true q640
           have p641 : 0 ≤ (x11_4 : Int) := of_decide_eq_true nx_
           have q641 : x11_4 < (l0_1.length : Int) := of_decide_eq_true nx_
           obtain ⟨ad641, e641, hx641_0, hx641_1, hx641_2, hx641_3, hx641_4⟩ := at_T33 HR0_1.out x11_4 p641 q641
           have hw641_4 := hx641_4
           have hw641_3 := hx641_3
           have hw641_2 := hx641_2
           have hw641_1 := hx641_1
           have hw641_0 := hx641_0
           obtain rfl : ad640 = ad641 := (by injection e641)
           replace hx641_0 := hb_ HB.out hx641_0
           replace hx641_1 := hb_ HB.out hx641_1
           replace hx641_2 := hb_ HB.out hx641_2
           replace hx641_3 := hb_ HB.out hx641_3
           replace hx641_4 := hb_ HB.out hx641_4
           replace p641 := eq_true p641
           replace q641 := eq_true q641
           refine start_ (n := 44) (S := fun w' => w'.cell? ⟨gb631, 0, none⟩ = some (.int .i64 a0_0) ∧ w'.cell? ⟨gb631, 1, none⟩ = some (.slice (some ad640) l0_1.length c0_1) ∧ w'.cell? (ad640.add ((x10_3).toNat * 5)) = some (.int .i64 ((rd_T33 l0_1 x10_3).f0)) ∧ w'.cell? ⟨(ad640.add ((x10_3).toNat * 5)).block, (ad640.add ((x10_3).toNat * 5)).off + 1, none⟩ = some (.int .i64 ((rd_T33 l0_1 x10_3).f1)) ∧ w'.cell? ⟨(ad640.add ((x10_3).toNat * 5)).block, (ad640.add ((x10_3).toNat * 5)).off + 2, none⟩ = some (.int .i64 ((rd_T33 l0_1 x10_3).f2)) ∧ w'.cell? ⟨(ad640.add ((x10_3).toNat * 5)).block, (ad640.add ((x10_3).toNat * 5)).off + 3, none⟩ = some (.int .i64 ((rd_T33 l0_1 x10_3).f3)) ∧ w'.cell? ⟨(ad640.add ((x10_3).toNat * 5)).block, (ad640.add ((x10_3).toNat * 5)).off + 4, none⟩ = some (.int .i64 ((rd_T33 l0_1 x10_3).f4)) ∧ w'.cell? (ad640.add ((x11_4).toNat * 5)) = some (.int .i64 ((rd_T33 l0_1 x11_4).f0)) ∧ w'.cell? ⟨(ad640.add ((x11_4).toNat * 5)).block, (ad640.add ((x11_4).toNat * 5)).off + 1, none⟩ = some (.int .i64 ((rd_T33 l0_1 x11_4).f1)) ∧ w'.cell? ⟨(ad640.add ((x11_4).toNat * 5)).block, (ad640.add ((x11_4).toNat * 5)).off + 2, none⟩ = some (.int .i64 ((rd_T33 l0_1 x11_4).f2)) ∧ w'.cell? ⟨(ad640.add ((x11_4).toNat * 5)).block, (ad640.add ((x11_4).toNat * 5)).off + 3, none⟩ = some (.int .i64 ((rd_T33 l0_1 x11_4).f3)) ∧ w'.cell? ⟨(ad640.add ((x11_4).toNat * 5)).block, (ad640.add ((x11_4).toNat * 5)).off + 4, none⟩ = some (.int .i64 ((rd_T33 l0_1 x11_4).f4))) (ds := []) z88_0 (by kernel_rfl) rfl rfl ⟨ct_ BK631.out 0, ct_ BK631.out 1, ((HB.out.cell (World.block_lt_of_cell? w _ hw640_0)).trans hw640_0), ((HB.out.cell (World.block_lt_of_cell? w _ hw640_1)).trans hw640_1), ((HB.out.cell (World.block_lt_of_cell? w _ hw640_2)).trans hw640_2), ((HB.out.cell (World.block_lt_of_cell? w _ hw640_3)).trans hw640_3), ((HB.out.cell (World.block_lt_of_cell? w _ hw640_4)).trans hw640_4), ((HB.out.cell (World.block_lt_of_cell? w _ hw641_0)).trans hw641_0), ((HB.out.cell (World.block_lt_of_cell? w _ hw641_1)).trans hw641_1), ((HB.out.cell (World.block_lt_of_cell? w _ hw641_2)).trans hw641_2), ((HB.out.cell (World.block_lt_of_cell? w _ hw641_3)).trans hw641_3), ((HB.out.cell (World.block_lt_of_cell? w _ hw641_4)).trans hw641_4)⟩ (fun hHeld => ?_); refine with_tabW spec_l4Arcs.tab18 spec_l4Arcs.bits18 (fun HT_ HW_ => ?_)
           generalize wr.drew = w57 at HO_7 BK631 HB hx640_0 hx640_1 hx640_2 hx640_3 hx640_4 hx641_0 hx641_1 hx641_2 hx641_3 hx641_4 hHeld ⊢
           refine pu_ 0 69 z88_1 HT_.out ?_
           refine pu_ 2 71 z88_2 HT_.out ?_
           refine pu_ 6 75 z88_3 HT_.out ?_
           refine pu_ 8 77 z88_4 HT_.out ?_
           refine tk_ 1 70 z88_5 HT_.out HW_.out hHeld ?_
           refine pu_ 3 72 z88_6 HT_.out ?_
           refine pu_ 4 73 z88_7 HT_.out ?_
           refine tk_ 5 74 z88_8 HT_.out HW_.out hHeld ?_
           refine tk_ 7 76 z88_9 HT_.out HW_.out hHeld ?_
           refine pu_ 9 78 z88_10 HT_.out ?_
           refine pu_ 10 79 z88_11 HT_.out ?_
           refine tk_ 11 80 z88_12 HT_.out HW_.out hHeld ?_
           refine pu_ 12 81 z88_13 HT_.out ?_
           refine pu_ 13 82 z88_14 HT_.out ?_
           refine un_ 14 83 z88_15 HT_.out ?_
           refine un_ 15 84 z88_16 HT_.out ?_
           refine pu_ 16 85 z88_17 HT_.out ?_
           refine pu_ 17 86 z88_18 HT_.out ?_
           refine un_ 18 87 z88_19 HT_.out ?_
           refine un_ 19 88 z88_20 HT_.out ?_
           refine un_ 20 89 z88_21 HT_.out ?_
           refine un_ 21 90 z88_22 HT_.out ?_
           refine un_ 22 91 z88_23 HT_.out ?_
           refine pu_ 23 92 z88_24 HT_.out ?_
           refine pu_ 24 93 z88_25 HT_.out ?_
           refine un_ 25 94 z88_26 HT_.out ?_
           refine un_ 26 95 z88_27 HT_.out ?_
           refine un_ 27 96 z88_28 HT_.out ?_
           refine un_ 28 97 z88_45 HT_.out ?_
           refine un_ 29 98 z88_46 HT_.out ?_
           refine un_ 30 99 z88_47 HT_.out ?_
           refine un_ 31 100 z88_48 HT_.out ?_
           refine un_ 32 101 z88_49 HT_.out ?_
           refine un_ 33 102 z88_50 HT_.out ?_
           refine un_ 34 103 z88_51 HT_.out ?_
           refine un_ 35 104 z88_52 HT_.out ?_
           refine un_ 36 105 z88_53 HT_.out ?_
           refine un_ 37 106 z88_54 HT_.out ?_
           refine un_ 38 107 z88_55 HT_.out ?_
           refine un_ 39 108 z88_56 HT_.out ?_
           refine un_ 40 109 z88_41 HT_.out ?_
           refine un_ 41 110 z88_42 HT_.out ?_
           refine un_ 42 111 z88_43 HT_.out ?_
           refine pu_ 43 112 z88_44 HT_.out ?_
           refine done_ (done_of HT_.out (by kernel_rfl)) ?_
           try go_wp2
           go_roundg k4
           case measure => have := HK1.out; have := HK2.out; have := HK3.out; have := HK4.out; omega
           case rel => exact ⟨(x7_4), (wrap64 (x11_4 + 1)), ns_, H', ⟨by have := HK1.out; have := HK2.out; have := HK3.out; have := HK4.out; omega⟩, ⟨nr_ HO_7.out⟩, ⟨nb_ BK631.out⟩, ⟨ne_ HB.out⟩⟩
          rw [if_pos c36] at H
          have c36b0 : (((rd_T33 l0_1 x10_3).f1) == ((rd_T33 l0_1 x11_4).f0)) = true := beq_iff_eq.mpr c36
          have c36b1 : (((rd_T33 l0_1 x10_3).f1) != ((rd_T33 l0_1 x11_4).f0)) = false := bne_eq_false_iff_eq.mpr c36
          clear c36
          by_cases c37 : t639 ≥ 0
          rotate_left
          ·rw [if_neg c37] at H
           have c37b0 : decide (0 ≤ t639) = false := decide_eq_false c37
           clear c37
           have H' := Aside0.mk H
           clear H
           obtain ⟨hcz54_0, hcz54_1, hfz54_0, hfz54_1⟩ := cz2_ BK631.out
           try go_wp2_with (first | ((with_reducible refine gate_callee (f := 68) rfl ?_); refine gl_ (some 68) Try.func68 #[.slice A1 l1.length c1, .int .i64 x10_3, .int .i64 x11_4] ?_; (with_reducible refine (spec_l4Cost.calls k4 _ _ l1 x10_3 x11_4 t639 _ ?side1 ?side2 A32.out).mono ?_); (case side1 => exact nc_ (Kd.C_below HR1.out HB.out)); (case side2 => exact HC1.out); rintro e w' ⟨rfl, ⟨nd, rfl⟩⟩; refine ⟨_, rfl, ?_⟩))
           (first | (rw [drewN_self wr]; generalize hq_ : World.drewN wr _ = wr; replace HO_7 : Aside0 (Kd.R (Kd.int .i64) 3 wr w.heap.size (fun _ => True) v633 x7_4) := ⟨by rw [← hq_]; exact (nr_ HO_7.out)⟩; replace BK631 : Aside0 (wr.heap[gb631]? = some (.cells #[.int .i64 a0_0, .slice A0_1 l0_1.length c0_1] 25 (0, 0))) := ⟨by rw [← hq_]; exact (nb_ BK631.out)⟩; replace HB : Aside0 (Below w.heap.size w wr) := ⟨by rw [← hq_]; exact (ne_ HB.out)⟩; clear hq_) | (have n0_ : Aside0 (Kd.R (Kd.int .i64) 3 wr w.heap.size (fun _ => True) v633 x7_4) := ⟨(nr_ HO_7.out)⟩; have n1_ : Aside0 (wr.heap[gb631]? = some (.cells #[.int .i64 a0_0, .slice A0_1 l0_1.length c0_1] 25 (0, 0))) := ⟨(nb_ BK631.out)⟩; have n2_ : Aside0 (Below w.heap.size w wr) := ⟨(ne_ HB.out)⟩; clear HO_7 BK631 HB; have HO_7 := n0_; have BK631 := n1_; have HB := n2_; clear n0_ n1_ n2_))
           replace HO_7 := Aside0.mk (Kd.R_drew HO_7.out)
           replace BK631 := Aside0.mk (blk_drew BK631.out)
           replace HB := Aside0.mk (below_drew1 HB.out)
           have p640 : 0 ≤ (x10_3 : Int) := of_decide_eq_true nx_
           have q640 : x10_3 < (l0_1.length : Int) := of_decide_eq_true nx_
           obtain ⟨ad640, e640, hx640_0, hx640_1, hx640_2, hx640_3, hx640_4⟩ := at_T33 HR0_1.out x10_3 p640 q640
           have hw640_4 := hx640_4
           have hw640_3 := hx640_3
           have hw640_2 := hx640_2
           have hw640_1 := hx640_1
           have hw640_0 := hx640_0
           cases e640
           replace hx640_0 := hb_ HB.out hx640_0
           replace hx640_1 := hb_ HB.out hx640_1
           replace hx640_2 := hb_ HB.out hx640_2
           replace hx640_3 := hb_ HB.out hx640_3
           replace hx640_4 := hb_ HB.out hx640_4
           replace p640 := eq_true p640
           replace q640 := eq_true q640
           have p641 : 0 ≤ (x11_4 : Int) := of_decide_eq_true nx_
           have q641 : x11_4 < (l0_1.length : Int) := of_decide_eq_true nx_
           obtain ⟨ad641, e641, hx641_0, hx641_1, hx641_2, hx641_3, hx641_4⟩ := at_T33 HR0_1.out x11_4 p641 q641
           have hw641_4 := hx641_4
           have hw641_3 := hx641_3
           have hw641_2 := hx641_2
           have hw641_1 := hx641_1
           have hw641_0 := hx641_0
           obtain rfl : ad640 = ad641 := (by injection e641)
           replace hx641_0 := hb_ HB.out hx641_0
           replace hx641_1 := hb_ HB.out hx641_1
           replace hx641_2 := hb_ HB.out hx641_2
           replace hx641_3 := hb_ HB.out hx641_3
           replace hx641_4 := hb_ HB.out hx641_4
           replace p641 := eq_true p641
           replace q641 := eq_true q641
           refine start_ (n := 44) (S := fun w' => w'.cell? ⟨gb631, 0, none⟩ = some (.int .i64 a0_0) ∧ w'.cell? ⟨gb631, 1, none⟩ = some (.slice (some ad640) l0_1.length c0_1) ∧ w'.cell? (ad640.add ((x10_3).toNat * 5)) = some (.int .i64 ((rd_T33 l0_1 x10_3).f0)) ∧ w'.cell? ⟨(ad640.add ((x10_3).toNat * 5)).block, (ad640.add ((x10_3).toNat * 5)).off + 1, none⟩ = some (.int .i64 ((rd_T33 l0_1 x10_3).f1)) ∧ w'.cell? ⟨(ad640.add ((x10_3).toNat * 5)).block, (ad640.add ((x10_3).toNat * 5)).off + 2, none⟩ = some (.int .i64 ((rd_T33 l0_1 x10_3).f2)) ∧ w'.cell? ⟨(ad640.add ((x10_3).toNat * 5)).block, (ad640.add ((x10_3).toNat * 5)).off + 3, none⟩ = some (.int .i64 ((rd_T33 l0_1 x10_3).f3)) ∧ w'.cell? ⟨(ad640.add ((x10_3).toNat * 5)).block, (ad640.add ((x10_3).toNat * 5)).off + 4, none⟩ = some (.int .i64 ((rd_T33 l0_1 x10_3).f4)) ∧ w'.cell? (ad640.add ((x11_4).toNat * 5)) = some (.int .i64 ((rd_T33 l0_1 x11_4).f0)) ∧ w'.cell? ⟨(ad640.add ((x11_4).toNat * 5)).block, (ad640.add ((x11_4).toNat * 5)).off + 1, none⟩ = some (.int .i64 ((rd_T33 l0_1 x11_4).f1)) ∧ w'.cell? ⟨(ad640.add ((x11_4).toNat * 5)).block, (ad640.add ((x11_4).toNat * 5)).off + 2, none⟩ = some (.int .i64 ((rd_T33 l0_1 x11_4).f2)) ∧ w'.cell? ⟨(ad640.add ((x11_4).toNat * 5)).block, (ad640.add ((x11_4).toNat * 5)).off + 3, none⟩ = some (.int .i64 ((rd_T33 l0_1 x11_4).f3)) ∧ w'.cell? ⟨(ad640.add ((x11_4).toNat * 5)).block, (ad640.add ((x11_4).toNat * 5)).off + 4, none⟩ = some (.int .i64 ((rd_T33 l0_1 x11_4).f4))) (ds := []) z88_0 (by kernel_rfl) rfl rfl ⟨ct_ BK631.out 0, ct_ BK631.out 1, ((HB.out.cell (World.block_lt_of_cell? w _ hw640_0)).trans hw640_0), ((HB.out.cell (World.block_lt_of_cell? w _ hw640_1)).trans hw640_1), ((HB.out.cell (World.block_lt_of_cell? w _ hw640_2)).trans hw640_2), ((HB.out.cell (World.block_lt_of_cell? w _ hw640_3)).trans hw640_3), ((HB.out.cell (World.block_lt_of_cell? w _ hw640_4)).trans hw640_4), ((HB.out.cell (World.block_lt_of_cell? w _ hw641_0)).trans hw641_0), ((HB.out.cell (World.block_lt_of_cell? w _ hw641_1)).trans hw641_1), ((HB.out.cell (World.block_lt_of_cell? w _ hw641_2)).trans hw641_2), ((HB.out.cell (World.block_lt_of_cell? w _ hw641_3)).trans hw641_3), ((HB.out.cell (World.block_lt_of_cell? w _ hw641_4)).trans hw641_4)⟩ (fun hHeld => ?_); refine with_tabW spec_l4Arcs.tab18 spec_l4Arcs.bits18 (fun HT_ HW_ => ?_)
           generalize wr.drew = w55 at HO_7 BK631 HB hx640_0 hx640_1 hx640_2 hx640_3 hx640_4 hx641_0 hx641_1 hx641_2 hx641_3 hx641_4 hHeld ⊢
           refine pu_ 0 69 z88_1 HT_.out ?_
           refine pu_ 2 71 z88_2 HT_.out ?_
           refine pu_ 6 75 z88_3 HT_.out ?_
           refine pu_ 8 77 z88_4 HT_.out ?_
           refine tk_ 1 70 z88_5 HT_.out HW_.out hHeld ?_
           refine pu_ 3 72 z88_6 HT_.out ?_
           refine pu_ 4 73 z88_7 HT_.out ?_
           refine tk_ 5 74 z88_8 HT_.out HW_.out hHeld ?_
           refine tk_ 7 76 z88_9 HT_.out HW_.out hHeld ?_
           refine pu_ 9 78 z88_10 HT_.out ?_
           refine pu_ 10 79 z88_11 HT_.out ?_
           refine tk_ 11 80 z88_12 HT_.out HW_.out hHeld ?_
           refine pu_ 12 81 z88_13 HT_.out ?_
           refine pu_ 13 82 z88_14 HT_.out ?_
           refine pu_ 14 83 z88_15 HT_.out ?_
           refine pu_ 15 84 z88_16 HT_.out ?_
           refine pu_ 16 85 z88_17 HT_.out ?_
           refine pu_ 17 86 z88_18 HT_.out ?_
           refine un_ 18 87 z88_19 HT_.out ?_
           refine un_ 19 88 z88_20 HT_.out ?_
           refine un_ 20 89 z88_21 HT_.out ?_
           refine un_ 21 90 z88_22 HT_.out ?_
           refine un_ 22 91 z88_23 HT_.out ?_
           refine pu_ 23 92 z88_24 HT_.out ?_
           refine pu_ 24 93 z88_25 HT_.out ?_
           refine un_ 25 94 z88_26 HT_.out ?_
           refine un_ 26 95 z88_27 HT_.out ?_
           refine un_ 27 96 z88_28 HT_.out ?_
           refine un_ 28 97 z88_45 HT_.out ?_
           refine un_ 29 98 z88_46 HT_.out ?_
           refine un_ 30 99 z88_47 HT_.out ?_
           refine un_ 31 100 z88_48 HT_.out ?_
           refine un_ 32 101 z88_49 HT_.out ?_
           refine un_ 33 102 z88_50 HT_.out ?_
           refine un_ 34 103 z88_51 HT_.out ?_
           refine un_ 35 104 z88_52 HT_.out ?_
           refine un_ 36 105 z88_53 HT_.out ?_
           refine un_ 37 106 z88_54 HT_.out ?_
           refine un_ 38 107 z88_55 HT_.out ?_
           refine un_ 39 108 z88_56 HT_.out ?_
           refine un_ 40 109 z88_41 HT_.out ?_
           refine un_ 41 110 z88_42 HT_.out ?_
           refine un_ 42 111 z88_43 HT_.out ?_
           refine pu_ 43 112 z88_44 HT_.out ?_
           refine done_ (done_of HT_.out (by kernel_rfl)) ?_
           try go_wp2
           go_roundg k4
           case measure => have := HK1.out; have := HK2.out; have := HK3.out; have := HK4.out; omega
           case rel => exact ⟨(x7_4), (wrap64 (x11_4 + 1)), ns_, H', ⟨by have := HK1.out; have := HK2.out; have := HK3.out; have := HK4.out; omega⟩, ⟨nr_ HO_7.out⟩, ⟨nb_ BK631.out⟩, ⟨ne_ HB.out⟩⟩
          rw [if_pos c37] at H
          have c37b0 : decide (0 ≤ t639) = true := decide_eq_true c37
          clear c37
          by_cases c38 : x10_3 < (x7_4.length : Int)
          rotate_left
          ·rw [if_neg c38] at H
           exact absurd H (by simp)
          rw [if_pos c38] at H
          have c38b0 : decide (x10_3 < (x7_4.length : Int)) = true := decide_eq_true c38
          clear c38
          by_cases c39 : (rd x7_4 x10_3) < 99999
          rotate_left
          ·rw [if_neg c39] at H
           have c39b0 : decide ((rd x7_4 x10_3) < 99999) = false := decide_eq_false c39
           clear c39
           have H' := Aside0.mk H
           clear H
           obtain ⟨hcz51_0, hcz51_1, hfz51_0, hfz51_1⟩ := cz2_ BK631.out
           try go_wp2_with (first | ((with_reducible refine gate_callee (f := 68) rfl ?_); refine gl_ (some 68) Try.func68 #[.slice A1 l1.length c1, .int .i64 x10_3, .int .i64 x11_4] ?_; (with_reducible refine (spec_l4Cost.calls k4 _ _ l1 x10_3 x11_4 t639 _ ?side1 ?side2 A32.out).mono ?_); (case side1 => exact nc_ (Kd.C_below HR1.out HB.out)); (case side2 => exact HC1.out); rintro e w' ⟨rfl, ⟨nd, rfl⟩⟩; refine ⟨_, rfl, ?_⟩))
           (first | (rw [drewN_self wr]; generalize hq_ : World.drewN wr _ = wr; replace HO_7 : Aside0 (Kd.R (Kd.int .i64) 3 wr w.heap.size (fun _ => True) v633 x7_4) := ⟨by rw [← hq_]; exact (nr_ HO_7.out)⟩; replace BK631 : Aside0 (wr.heap[gb631]? = some (.cells #[.int .i64 a0_0, .slice A0_1 l0_1.length c0_1] 25 (0, 0))) := ⟨by rw [← hq_]; exact (nb_ BK631.out)⟩; replace HB : Aside0 (Below w.heap.size w wr) := ⟨by rw [← hq_]; exact (ne_ HB.out)⟩; clear hq_) | (have n0_ : Aside0 (Kd.R (Kd.int .i64) 3 wr w.heap.size (fun _ => True) v633 x7_4) := ⟨(nr_ HO_7.out)⟩; have n1_ : Aside0 (wr.heap[gb631]? = some (.cells #[.int .i64 a0_0, .slice A0_1 l0_1.length c0_1] 25 (0, 0))) := ⟨(nb_ BK631.out)⟩; have n2_ : Aside0 (Below w.heap.size w wr) := ⟨(ne_ HB.out)⟩; clear HO_7 BK631 HB; have HO_7 := n0_; have BK631 := n1_; have HB := n2_; clear n0_ n1_ n2_))
           replace HO_7 := Aside0.mk (Kd.R_drew HO_7.out)
           replace BK631 := Aside0.mk (blk_drew BK631.out)
           replace HB := Aside0.mk (below_drew1 HB.out)
           have p640 : 0 ≤ (x10_3 : Int) := of_decide_eq_true nx_
           have q640 : x10_3 < (l0_1.length : Int) := of_decide_eq_true nx_
           obtain ⟨ad640, e640, hx640_0, hx640_1, hx640_2, hx640_3, hx640_4⟩ := at_T33 HR0_1.out x10_3 p640 q640
           have hw640_4 := hx640_4
           have hw640_3 := hx640_3
           have hw640_2 := hx640_2
           have hw640_1 := hx640_1
           have hw640_0 := hx640_0
           cases e640
           replace hx640_0 := hb_ HB.out hx640_0
           replace hx640_1 := hb_ HB.out hx640_1
           replace hx640_2 := hb_ HB.out hx640_2
           replace hx640_3 := hb_ HB.out hx640_3
           replace hx640_4 := hb_ HB.out hx640_4
           replace p640 := eq_true p640
           replace q640 := eq_true q640
           have p641 : 0 ≤ (x11_4 : Int) := of_decide_eq_true nx_
           have q641 : x11_4 < (l0_1.length : Int) := of_decide_eq_true nx_
           obtain ⟨ad641, e641, hx641_0, hx641_1, hx641_2, hx641_3, hx641_4⟩ := at_T33 HR0_1.out x11_4 p641 q641
           have hw641_4 := hx641_4
           have hw641_3 := hx641_3
           have hw641_2 := hx641_2
           have hw641_1 := hx641_1
           have hw641_0 := hx641_0
           obtain rfl : ad640 = ad641 := (by injection e641)
           replace hx641_0 := hb_ HB.out hx641_0
           replace hx641_1 := hb_ HB.out hx641_1
           replace hx641_2 := hb_ HB.out hx641_2
           replace hx641_3 := hb_ HB.out hx641_3
           replace hx641_4 := hb_ HB.out hx641_4
           replace p641 := eq_true p641
           replace q641 := eq_true q641
           obtain ⟨Ao53, co53, eo53⟩ := Kd.R_slice HO_7.out
           (first | subst eo53 | (injection eo53 with f1_ f2_ f3_; have f4_ := f1_.symm; have f5_ := f3_.symm; clear f1_ f2_ f3_; subst f4_; subst f5_))
           have p642 : 0 ≤ (x10_3 : Int) := of_decide_eq_true nx_
           have q642 : x10_3 < (x7_4.length : Int) := of_decide_eq_true nx_
           obtain ⟨ad642, e642, hx642_0⟩ := Kd.at_int (Kd.R_reads' HO_7.out).2.2 x10_3 p642 q642
           cases e642
           replace p642 := eq_true p642
           replace q642 := eq_true q642
           refine start_ (n := 44) (S := fun w' => w'.cell? ⟨gb631, 0, none⟩ = some (.int .i64 a0_0) ∧ w'.cell? ⟨gb631, 1, none⟩ = some (.slice (some ad640) l0_1.length c0_1) ∧ w'.cell? (ad640.add ((x10_3).toNat * 5)) = some (.int .i64 ((rd_T33 l0_1 x10_3).f0)) ∧ w'.cell? ⟨(ad640.add ((x10_3).toNat * 5)).block, (ad640.add ((x10_3).toNat * 5)).off + 1, none⟩ = some (.int .i64 ((rd_T33 l0_1 x10_3).f1)) ∧ w'.cell? ⟨(ad640.add ((x10_3).toNat * 5)).block, (ad640.add ((x10_3).toNat * 5)).off + 2, none⟩ = some (.int .i64 ((rd_T33 l0_1 x10_3).f2)) ∧ w'.cell? ⟨(ad640.add ((x10_3).toNat * 5)).block, (ad640.add ((x10_3).toNat * 5)).off + 3, none⟩ = some (.int .i64 ((rd_T33 l0_1 x10_3).f3)) ∧ w'.cell? ⟨(ad640.add ((x10_3).toNat * 5)).block, (ad640.add ((x10_3).toNat * 5)).off + 4, none⟩ = some (.int .i64 ((rd_T33 l0_1 x10_3).f4)) ∧ w'.cell? (ad640.add ((x11_4).toNat * 5)) = some (.int .i64 ((rd_T33 l0_1 x11_4).f0)) ∧ w'.cell? ⟨(ad640.add ((x11_4).toNat * 5)).block, (ad640.add ((x11_4).toNat * 5)).off + 1, none⟩ = some (.int .i64 ((rd_T33 l0_1 x11_4).f1)) ∧ w'.cell? ⟨(ad640.add ((x11_4).toNat * 5)).block, (ad640.add ((x11_4).toNat * 5)).off + 2, none⟩ = some (.int .i64 ((rd_T33 l0_1 x11_4).f2)) ∧ w'.cell? ⟨(ad640.add ((x11_4).toNat * 5)).block, (ad640.add ((x11_4).toNat * 5)).off + 3, none⟩ = some (.int .i64 ((rd_T33 l0_1 x11_4).f3)) ∧ w'.cell? ⟨(ad640.add ((x11_4).toNat * 5)).block, (ad640.add ((x11_4).toNat * 5)).off + 4, none⟩ = some (.int .i64 ((rd_T33 l0_1 x11_4).f4)) ∧ w'.cell? (ad642.add (x10_3).toNat) = some (.int .i64 (rd x7_4 x10_3))) (ds := []) z88_0 (by kernel_rfl) rfl rfl ⟨ct_ BK631.out 0, ct_ BK631.out 1, ((HB.out.cell (World.block_lt_of_cell? w _ hw640_0)).trans hw640_0), ((HB.out.cell (World.block_lt_of_cell? w _ hw640_1)).trans hw640_1), ((HB.out.cell (World.block_lt_of_cell? w _ hw640_2)).trans hw640_2), ((HB.out.cell (World.block_lt_of_cell? w _ hw640_3)).trans hw640_3), ((HB.out.cell (World.block_lt_of_cell? w _ hw640_4)).trans hw640_4), ((HB.out.cell (World.block_lt_of_cell? w _ hw641_0)).trans hw641_0), ((HB.out.cell (World.block_lt_of_cell? w _ hw641_1)).trans hw641_1), ((HB.out.cell (World.block_lt_of_cell? w _ hw641_2)).trans hw641_2), ((HB.out.cell (World.block_lt_of_cell? w _ hw641_3)).trans hw641_3), ((HB.out.cell (World.block_lt_of_cell? w _ hw641_4)).trans hw641_4), hx642_0⟩ (fun hHeld => ?_); refine with_tabW spec_l4Arcs.tab18 spec_l4Arcs.bits18 (fun HT_ HW_ => ?_)
           generalize wr.drew = w52 at HO_7 BK631 HB hx640_0 hx640_1 hx640_2 hx640_3 hx640_4 hx641_0 hx641_1 hx641_2 hx641_3 hx641_4 hx642_0 hHeld ⊢
           refine pu_ 0 69 z88_1 HT_.out ?_
           refine pu_ 2 71 z88_2 HT_.out ?_
           refine pu_ 6 75 z88_3 HT_.out ?_
           refine pu_ 8 77 z88_4 HT_.out ?_
           refine tk_ 1 70 z88_5 HT_.out HW_.out hHeld ?_
           refine pu_ 3 72 z88_6 HT_.out ?_
           refine pu_ 4 73 z88_7 HT_.out ?_
           refine tk_ 5 74 z88_8 HT_.out HW_.out hHeld ?_
           refine tk_ 7 76 z88_9 HT_.out HW_.out hHeld ?_
           refine pu_ 9 78 z88_10 HT_.out ?_
           refine pu_ 10 79 z88_11 HT_.out ?_
           refine tk_ 11 80 z88_12 HT_.out HW_.out hHeld ?_
           refine pu_ 12 81 z88_13 HT_.out ?_
           refine pu_ 13 82 z88_14 HT_.out ?_
           refine pu_ 14 83 z88_15 HT_.out ?_
           refine pu_ 15 84 z88_16 HT_.out ?_
           refine pu_ 16 85 z88_17 HT_.out ?_
           refine pu_ 17 86 z88_18 HT_.out ?_
           refine pu_ 18 87 z88_19 HT_.out ?_
           refine pu_ 19 88 z88_20 HT_.out ?_
           refine pu_ 20 89 z88_21 HT_.out ?_
           refine tk_ 21 90 z88_22 HT_.out HW_.out hHeld ?_
           refine pu_ 22 91 z88_23 HT_.out ?_
           refine pu_ 23 92 z88_24 HT_.out ?_
           refine pu_ 24 93 z88_25 HT_.out ?_
           refine un_ 25 94 z88_26 HT_.out ?_
           refine un_ 26 95 z88_27 HT_.out ?_
           refine un_ 27 96 z88_28 HT_.out ?_
           refine un_ 28 97 z88_45 HT_.out ?_
           refine un_ 29 98 z88_46 HT_.out ?_
           refine un_ 30 99 z88_47 HT_.out ?_
           refine un_ 31 100 z88_48 HT_.out ?_
           refine un_ 32 101 z88_49 HT_.out ?_
           refine un_ 33 102 z88_50 HT_.out ?_
           refine un_ 34 103 z88_51 HT_.out ?_
           refine un_ 35 104 z88_52 HT_.out ?_
           refine un_ 36 105 z88_53 HT_.out ?_
           refine un_ 37 106 z88_54 HT_.out ?_
           refine un_ 38 107 z88_55 HT_.out ?_
           refine un_ 39 108 z88_56 HT_.out ?_
           refine un_ 40 109 z88_41 HT_.out ?_
           refine un_ 41 110 z88_42 HT_.out ?_
           refine un_ 42 111 z88_43 HT_.out ?_
           refine pu_ 43 112 z88_44 HT_.out ?_
           refine done_ (done_of HT_.out (by kernel_rfl)) ?_
           try go_wp2
           go_roundg k4
           case measure => have := HK1.out; have := HK2.out; have := HK3.out; have := HK4.out; omega
           case rel => exact ⟨(x7_4), (wrap64 (x11_4 + 1)), ns_, H', ⟨by have := HK1.out; have := HK2.out; have := HK3.out; have := HK4.out; omega⟩, ⟨nr_ HO_7.out⟩, ⟨nb_ BK631.out⟩, ⟨ne_ HB.out⟩⟩
          rw [if_pos c39] at H
          have c39b0 : decide ((rd x7_4 x10_3) < 99999) = true := decide_eq_true c39
          clear c39
          by_cases c40 : x11_4 < (x7_4.length : Int)
          rotate_left
          ·rw [if_neg c40] at H
           exact absurd H (by simp)
          rw [if_pos c40] at H
          have c40b0 : decide (x11_4 < (x7_4.length : Int)) = true := decide_eq_true c40
          clear c40
          by_cases c41 : (wrap64 ((wrap64 ((rd x7_4 x10_3) + t639)) + ((rd_T33 l0_1 x11_4).f2))) < (rd x7_4 x11_4)
          rotate_left
          ·rw [if_neg c41] at H
           have c41b0 : decide ((wrap64 ((wrap64 ((rd x7_4 x10_3) + t639)) + ((rd_T33 l0_1 x11_4).f2))) < (rd x7_4 x11_4)) = false := decide_eq_false c41
           clear c41
           have H' := Aside0.mk H
           clear H
           obtain ⟨hcz48_0, hcz48_1, hfz48_0, hfz48_1⟩ := cz2_ BK631.out
           try go_wp2_with (first | ((with_reducible refine gate_callee (f := 68) rfl ?_); refine gl_ (some 68) Try.func68 #[.slice A1 l1.length c1, .int .i64 x10_3, .int .i64 x11_4] ?_; (with_reducible refine (spec_l4Cost.calls k4 _ _ l1 x10_3 x11_4 t639 _ ?side1 ?side2 A32.out).mono ?_); (case side1 => exact nc_ (Kd.C_below HR1.out HB.out)); (case side2 => exact HC1.out); rintro e w' ⟨rfl, ⟨nd, rfl⟩⟩; refine ⟨_, rfl, ?_⟩))
           (first | (rw [drewN_self wr]; generalize hq_ : World.drewN wr _ = wr; replace HO_7 : Aside0 (Kd.R (Kd.int .i64) 3 wr w.heap.size (fun _ => True) v633 x7_4) := ⟨by rw [← hq_]; exact (nr_ HO_7.out)⟩; replace BK631 : Aside0 (wr.heap[gb631]? = some (.cells #[.int .i64 a0_0, .slice A0_1 l0_1.length c0_1] 25 (0, 0))) := ⟨by rw [← hq_]; exact (nb_ BK631.out)⟩; replace HB : Aside0 (Below w.heap.size w wr) := ⟨by rw [← hq_]; exact (ne_ HB.out)⟩; clear hq_) | (have n0_ : Aside0 (Kd.R (Kd.int .i64) 3 wr w.heap.size (fun _ => True) v633 x7_4) := ⟨(nr_ HO_7.out)⟩; have n1_ : Aside0 (wr.heap[gb631]? = some (.cells #[.int .i64 a0_0, .slice A0_1 l0_1.length c0_1] 25 (0, 0))) := ⟨(nb_ BK631.out)⟩; have n2_ : Aside0 (Below w.heap.size w wr) := ⟨(ne_ HB.out)⟩; clear HO_7 BK631 HB; have HO_7 := n0_; have BK631 := n1_; have HB := n2_; clear n0_ n1_ n2_))
           replace HO_7 := Aside0.mk (Kd.R_drew HO_7.out)
           replace BK631 := Aside0.mk (blk_drew BK631.out)
           replace HB := Aside0.mk (below_drew1 HB.out)
           have p640 : 0 ≤ (x10_3 : Int) := of_decide_eq_true nx_
           have q640 : x10_3 < (l0_1.length : Int) := of_decide_eq_true nx_
           obtain ⟨ad640, e640, hx640_0, hx640_1, hx640_2, hx640_3, hx640_4⟩ := at_T33 HR0_1.out x10_3 p640 q640
           have hw640_4 := hx640_4
           have hw640_3 := hx640_3
           have hw640_2 := hx640_2
           have hw640_1 := hx640_1
           have hw640_0 := hx640_0
           cases e640
           replace hx640_0 := hb_ HB.out hx640_0
           replace hx640_1 := hb_ HB.out hx640_1
           replace hx640_2 := hb_ HB.out hx640_2
           replace hx640_3 := hb_ HB.out hx640_3
           replace hx640_4 := hb_ HB.out hx640_4
           replace p640 := eq_true p640
           replace q640 := eq_true q640
           have p641 : 0 ≤ (x11_4 : Int) := of_decide_eq_true nx_
           have q641 : x11_4 < (l0_1.length : Int) := of_decide_eq_true nx_
           obtain ⟨ad641, e641, hx641_0, hx641_1, hx641_2, hx641_3, hx641_4⟩ := at_T33 HR0_1.out x11_4 p641 q641
           have hw641_4 := hx641_4
           have hw641_3 := hx641_3
           have hw641_2 := hx641_2
           have hw641_1 := hx641_1
           have hw641_0 := hx641_0
           obtain rfl : ad640 = ad641 := (by injection e641)
           replace hx641_0 := hb_ HB.out hx641_0
           replace hx641_1 := hb_ HB.out hx641_1
           replace hx641_2 := hb_ HB.out hx641_2
           replace hx641_3 := hb_ HB.out hx641_3
           replace hx641_4 := hb_ HB.out hx641_4
           replace p641 := eq_true p641
           replace q641 := eq_true q641
           obtain ⟨Ao50, co50, eo50⟩ := Kd.R_slice HO_7.out
           (first | subst eo50 | (injection eo50 with f1_ f2_ f3_; have f4_ := f1_.symm; have f5_ := f3_.symm; clear f1_ f2_ f3_; subst f4_; subst f5_))
           have p642 : 0 ≤ (x10_3 : Int) := of_decide_eq_true nx_
           have q642 : x10_3 < (x7_4.length : Int) := of_decide_eq_true nx_
           obtain ⟨ad642, e642, hx642_0⟩ := Kd.at_int (Kd.R_reads' HO_7.out).2.2 x10_3 p642 q642
           cases e642
           replace p642 := eq_true p642
           replace q642 := eq_true q642
           have p643 : 0 ≤ (x10_3 : Int) := of_decide_eq_true nx_
           have q643 : x10_3 < (x7_4.length : Int) := of_decide_eq_true nx_
           obtain ⟨ad643, e643, hx643_0⟩ := Kd.at_int (Kd.R_reads' HO_7.out).2.2 x10_3 p643 q643
           obtain rfl : ad642 = ad643 := (by injection e643)
           replace p643 := eq_true p643
           replace q643 := eq_true q643
           have p644 : 0 ≤ (x11_4 : Int) := of_decide_eq_true nx_
           have q644 : x11_4 < (l0_1.length : Int) := of_decide_eq_true nx_
           obtain ⟨ad644, e644, hx644_0, hx644_1, hx644_2, hx644_3, hx644_4⟩ := at_T33 HR0_1.out x11_4 p644 q644
           have hw644_4 := hx644_4
           have hw644_3 := hx644_3
           have hw644_2 := hx644_2
           have hw644_1 := hx644_1
           have hw644_0 := hx644_0
           obtain rfl : ad640 = ad644 := (by injection e644)
           replace hx644_0 := hb_ HB.out hx644_0
           replace hx644_1 := hb_ HB.out hx644_1
           replace hx644_2 := hb_ HB.out hx644_2
           replace hx644_3 := hb_ HB.out hx644_3
           replace hx644_4 := hb_ HB.out hx644_4
           replace p644 := eq_true p644
           replace q644 := eq_true q644
           have p645 : 0 ≤ (x11_4 : Int) := of_decide_eq_true nx_
           have q645 : x11_4 < (x7_4.length : Int) := of_decide_eq_true nx_
           obtain ⟨ad645, e645, hx645_0⟩ := Kd.at_int (Kd.R_reads' HO_7.out).2.2 x11_4 p645 q645
           obtain rfl : ad642 = ad645 := (by injection e645)
           replace p645 := eq_true p645
           replace q645 := eq_true q645
           refine start_ (n := 44) (S := fun w' => w'.cell? ⟨gb631, 0, none⟩ = some (.int .i64 a0_0) ∧ w'.cell? ⟨gb631, 1, none⟩ = some (.slice (some ad640) l0_1.length c0_1) ∧ w'.cell? (ad640.add ((x10_3).toNat * 5)) = some (.int .i64 ((rd_T33 l0_1 x10_3).f0)) ∧ w'.cell? ⟨(ad640.add ((x10_3).toNat * 5)).block, (ad640.add ((x10_3).toNat * 5)).off + 1, none⟩ = some (.int .i64 ((rd_T33 l0_1 x10_3).f1)) ∧ w'.cell? ⟨(ad640.add ((x10_3).toNat * 5)).block, (ad640.add ((x10_3).toNat * 5)).off + 2, none⟩ = some (.int .i64 ((rd_T33 l0_1 x10_3).f2)) ∧ w'.cell? ⟨(ad640.add ((x10_3).toNat * 5)).block, (ad640.add ((x10_3).toNat * 5)).off + 3, none⟩ = some (.int .i64 ((rd_T33 l0_1 x10_3).f3)) ∧ w'.cell? ⟨(ad640.add ((x10_3).toNat * 5)).block, (ad640.add ((x10_3).toNat * 5)).off + 4, none⟩ = some (.int .i64 ((rd_T33 l0_1 x10_3).f4)) ∧ w'.cell? (ad640.add ((x11_4).toNat * 5)) = some (.int .i64 ((rd_T33 l0_1 x11_4).f0)) ∧ w'.cell? ⟨(ad640.add ((x11_4).toNat * 5)).block, (ad640.add ((x11_4).toNat * 5)).off + 1, none⟩ = some (.int .i64 ((rd_T33 l0_1 x11_4).f1)) ∧ w'.cell? ⟨(ad640.add ((x11_4).toNat * 5)).block, (ad640.add ((x11_4).toNat * 5)).off + 2, none⟩ = some (.int .i64 ((rd_T33 l0_1 x11_4).f2)) ∧ w'.cell? ⟨(ad640.add ((x11_4).toNat * 5)).block, (ad640.add ((x11_4).toNat * 5)).off + 3, none⟩ = some (.int .i64 ((rd_T33 l0_1 x11_4).f3)) ∧ w'.cell? ⟨(ad640.add ((x11_4).toNat * 5)).block, (ad640.add ((x11_4).toNat * 5)).off + 4, none⟩ = some (.int .i64 ((rd_T33 l0_1 x11_4).f4)) ∧ w'.cell? (ad642.add (x10_3).toNat) = some (.int .i64 (rd x7_4 x10_3)) ∧ w'.cell? (ad642.add (x10_3).toNat) = some (.int .i64 (rd x7_4 x10_3)) ∧ w'.cell? (ad640.add ((x11_4).toNat * 5)) = some (.int .i64 ((rd_T33 l0_1 x11_4).f0)) ∧ w'.cell? ⟨(ad640.add ((x11_4).toNat * 5)).block, (ad640.add ((x11_4).toNat * 5)).off + 1, none⟩ = some (.int .i64 ((rd_T33 l0_1 x11_4).f1)) ∧ w'.cell? ⟨(ad640.add ((x11_4).toNat * 5)).block, (ad640.add ((x11_4).toNat * 5)).off + 2, none⟩ = some (.int .i64 ((rd_T33 l0_1 x11_4).f2)) ∧ w'.cell? ⟨(ad640.add ((x11_4).toNat * 5)).block, (ad640.add ((x11_4).toNat * 5)).off + 3, none⟩ = some (.int .i64 ((rd_T33 l0_1 x11_4).f3)) ∧ w'.cell? ⟨(ad640.add ((x11_4).toNat * 5)).block, (ad640.add ((x11_4).toNat * 5)).off + 4, none⟩ = some (.int .i64 ((rd_T33 l0_1 x11_4).f4)) ∧ w'.cell? (ad642.add (x11_4).toNat) = some (.int .i64 (rd x7_4 x11_4))) (ds := []) z88_0 (by kernel_rfl) rfl rfl ⟨ct_ BK631.out 0, ct_ BK631.out 1, ((HB.out.cell (World.block_lt_of_cell? w _ hw640_0)).trans hw640_0), ((HB.out.cell (World.block_lt_of_cell? w _ hw640_1)).trans hw640_1), ((HB.out.cell (World.block_lt_of_cell? w _ hw640_2)).trans hw640_2), ((HB.out.cell (World.block_lt_of_cell? w _ hw640_3)).trans hw640_3), ((HB.out.cell (World.block_lt_of_cell? w _ hw640_4)).trans hw640_4), ((HB.out.cell (World.block_lt_of_cell? w _ hw641_0)).trans hw641_0), ((HB.out.cell (World.block_lt_of_cell? w _ hw641_1)).trans hw641_1), ((HB.out.cell (World.block_lt_of_cell? w _ hw641_2)).trans hw641_2), ((HB.out.cell (World.block_lt_of_cell? w _ hw641_3)).trans hw641_3), ((HB.out.cell (World.block_lt_of_cell? w _ hw641_4)).trans hw641_4), hx642_0, hx643_0, ((HB.out.cell (World.block_lt_of_cell? w _ hw644_0)).trans hw644_0), ((HB.out.cell (World.block_lt_of_cell? w _ hw644_1)).trans hw644_1), ((HB.out.cell (World.block_lt_of_cell? w _ hw644_2)).trans hw644_2), ((HB.out.cell (World.block_lt_of_cell? w _ hw644_3)).trans hw644_3), ((HB.out.cell (World.block_lt_of_cell? w _ hw644_4)).trans hw644_4), hx645_0⟩ (fun hHeld => ?_); refine with_tabW spec_l4Arcs.tab18 spec_l4Arcs.bits18 (fun HT_ HW_ => ?_)
           generalize wr.drew = w49 at HO_7 BK631 HB hx640_0 hx640_1 hx640_2 hx640_3 hx640_4 hx641_0 hx641_1 hx641_2 hx641_3 hx641_4 hx642_0 hx643_0 hx644_0 hx644_1 hx644_2 hx644_3 hx644_4 hx645_0 hHeld ⊢
           refine pu_ 0 69 z88_1 HT_.out ?_
           refine pu_ 2 71 z88_2 HT_.out ?_
           refine pu_ 6 75 z88_3 HT_.out ?_
           refine pu_ 8 77 z88_4 HT_.out ?_
           refine tk_ 1 70 z88_5 HT_.out HW_.out hHeld ?_
           refine pu_ 3 72 z88_6 HT_.out ?_
           refine pu_ 4 73 z88_7 HT_.out ?_
           refine tk_ 5 74 z88_8 HT_.out HW_.out hHeld ?_
           refine tk_ 7 76 z88_9 HT_.out HW_.out hHeld ?_
           refine pu_ 9 78 z88_10 HT_.out ?_
           refine pu_ 10 79 z88_11 HT_.out ?_
           refine tk_ 11 80 z88_12 HT_.out HW_.out hHeld ?_
           refine pu_ 12 81 z88_13 HT_.out ?_
           refine pu_ 13 82 z88_14 HT_.out ?_
           refine pu_ 14 83 z88_15 HT_.out ?_
           refine pu_ 15 84 z88_16 HT_.out ?_
           refine pu_ 16 85 z88_17 HT_.out ?_
           refine pu_ 17 86 z88_18 HT_.out ?_
           refine pu_ 18 87 z88_19 HT_.out ?_
           refine pu_ 19 88 z88_20 HT_.out ?_
           refine pu_ 20 89 z88_21 HT_.out ?_
           refine tk_ 21 90 z88_22 HT_.out HW_.out hHeld ?_
           refine pu_ 22 91 z88_23 HT_.out ?_
           refine pu_ 23 92 z88_24 HT_.out ?_
           refine pu_ 24 93 z88_25 HT_.out ?_
           refine pu_ 25 94 z88_26 HT_.out ?_
           refine pu_ 26 95 z88_27 HT_.out ?_
           refine pu_ 27 96 z88_28 HT_.out ?_
           refine pu_ 29 98 z88_29 HT_.out ?_
           refine pu_ 31 100 z88_30 HT_.out ?_
           refine pu_ 33 102 z88_31 HT_.out ?_
           refine pu_ 38 107 z88_32 HT_.out ?_
           refine pu_ 39 108 z88_33 HT_.out ?_
           refine pu_ 40 109 z88_34 HT_.out ?_
           refine tk_ 28 97 z88_35 HT_.out HW_.out hHeld ?_
           refine pu_ 30 99 z88_36 HT_.out ?_
           refine tk_ 32 101 z88_37 HT_.out HW_.out hHeld ?_
           refine pu_ 34 103 z88_38 HT_.out ?_
           refine pu_ 35 104 z88_39 HT_.out ?_
           refine tk_ 36 105 z88_40 HT_.out HW_.out hHeld ?_
           refine pu_ 37 106 z88_41 HT_.out ?_
           refine tk_ 41 110 z88_42 HT_.out HW_.out hHeld ?_
           refine pu_ 42 111 z88_43 HT_.out ?_
           refine pu_ 43 112 z88_44 HT_.out ?_
           refine done_ (done_of HT_.out (by kernel_rfl)) ?_
           try go_wp2
           go_roundg k4
           case measure => have := HK1.out; have := HK2.out; have := HK3.out; have := HK4.out; omega
           case rel => exact ⟨(x7_4), (wrap64 (x11_4 + 1)), ns_, H', ⟨by have := HK1.out; have := HK2.out; have := HK3.out; have := HK4.out; omega⟩, ⟨nr_ HO_7.out⟩, ⟨nb_ BK631.out⟩, ⟨ne_ HB.out⟩⟩
          rw [if_pos c41] at H
          have c41b0 : decide ((wrap64 ((wrap64 ((rd x7_4 x10_3) + t639)) + ((rd_T33 l0_1 x11_4).f2))) < (rd x7_4 x11_4)) = true := decide_eq_true c41
          clear c41
          obtain ⟨y648, hy648⟩ : ∃ y_ : List Int, y_ = (x7_4.set (x11_4 : Int).toNat (wrap64 ((wrap64 ((rd x7_4 x10_3) + t639)) + ((rd_T33 l0_1 x11_4).f2)))) := ⟨_, rfl⟩
          replace H : (spec_l4Arcs.l3 k4 l1 y648 x9_2 x10_3 (wrap64 (x11_4 + 1)) a0_0 l0_1) = some r := by first | (rw [hy648]; with_reducible exact H) | (have H2_ := (Option.bind_some _ _).symm.trans H; rw [hy648]; with_reducible exact H2_) | (have H2_ := (Option.bind_some _ _).symm.trans H; with_reducible exact H2_) | with_reducible exact H | (rw [hy648]; exact H) | exact H
          have Ny648 := Aside0.mk hy648
          clear hy648
          have H' := Aside0.mk H
          clear H
          obtain ⟨hcz43_0, hcz43_1, hfz43_0, hfz43_1⟩ := cz2_ BK631.out
          try go_wp2_with (first | ((with_reducible refine gate_callee (f := 68) rfl ?_); refine gl_ (some 68) Try.func68 #[.slice A1 l1.length c1, .int .i64 x10_3, .int .i64 x11_4] ?_; (with_reducible refine (spec_l4Cost.calls k4 _ _ l1 x10_3 x11_4 t639 _ ?side1 ?side2 A32.out).mono ?_); (case side1 => exact nc_ (Kd.C_below HR1.out HB.out)); (case side2 => exact HC1.out); rintro e w' ⟨rfl, ⟨nd, rfl⟩⟩; refine ⟨_, rfl, ?_⟩; (first | (rw [drewN_self wr]; generalize hq_ : World.drewN wr _ = wr; replace HO_7 : Aside0 (Kd.R (Kd.int .i64) 3 wr w.heap.size (fun _ => True) v633 x7_4) := ⟨by rw [← hq_]; exact (nr_ HO_7.out)⟩; replace BK631 : Aside0 (wr.heap[gb631]? = some (.cells #[.int .i64 a0_0, .slice A0_1 l0_1.length c0_1] 25 (0, 0))) := ⟨by rw [← hq_]; exact (nb_ BK631.out)⟩; replace HB : Aside0 (Below w.heap.size w wr) := ⟨by rw [← hq_]; exact (ne_ HB.out)⟩; clear hq_) | (have n0_ : Aside0 (Kd.R (Kd.int .i64) 3 wr w.heap.size (fun _ => True) v633 x7_4) := ⟨(nr_ HO_7.out)⟩; have n1_ : Aside0 (wr.heap[gb631]? = some (.cells #[.int .i64 a0_0, .slice A0_1 l0_1.length c0_1] 25 (0, 0))) := ⟨(nb_ BK631.out)⟩; have n2_ : Aside0 (Below w.heap.size w wr) := ⟨(ne_ HB.out)⟩; clear HO_7 BK631 HB; have HO_7 := n0_; have BK631 := n1_; have HB := n2_; clear n0_ n1_ n2_))))
          replace HO_7 := Aside0.mk (Kd.R_drew HO_7.out)
          replace BK631 := Aside0.mk (blk_drew BK631.out)
          replace HB := Aside0.mk (below_drew1 HB.out)
          have p640 : 0 ≤ (x10_3 : Int) := of_decide_eq_true nx_
          have q640 : x10_3 < (l0_1.length : Int) := of_decide_eq_true nx_
          obtain ⟨ad640, e640, hx640_0, hx640_1, hx640_2, hx640_3, hx640_4⟩ := at_T33 HR0_1.out x10_3 p640 q640
          have hw640_4 := hx640_4
          have hw640_3 := hx640_3
          have hw640_2 := hx640_2
          have hw640_1 := hx640_1
          have hw640_0 := hx640_0
          cases e640
          replace hx640_0 := hb_ HB.out hx640_0
          replace hx640_1 := hb_ HB.out hx640_1
          replace hx640_2 := hb_ HB.out hx640_2
          replace hx640_3 := hb_ HB.out hx640_3
          replace hx640_4 := hb_ HB.out hx640_4
          replace p640 := eq_true p640
          replace q640 := eq_true q640
          have p641 : 0 ≤ (x11_4 : Int) := of_decide_eq_true nx_
          have q641 : x11_4 < (l0_1.length : Int) := of_decide_eq_true nx_
          obtain ⟨ad641, e641, hx641_0, hx641_1, hx641_2, hx641_3, hx641_4⟩ := at_T33 HR0_1.out x11_4 p641 q641
          have hw641_4 := hx641_4
          have hw641_3 := hx641_3
          have hw641_2 := hx641_2
          have hw641_1 := hx641_1
          have hw641_0 := hx641_0
          obtain rfl : ad640 = ad641 := (by injection e641)
          replace hx641_0 := hb_ HB.out hx641_0
          replace hx641_1 := hb_ HB.out hx641_1
          replace hx641_2 := hb_ HB.out hx641_2
          replace hx641_3 := hb_ HB.out hx641_3
          replace hx641_4 := hb_ HB.out hx641_4
          replace p641 := eq_true p641
          replace q641 := eq_true q641
          obtain ⟨Ao45, co45, eo45⟩ := Kd.R_slice HO_7.out
          (first | subst eo45 | (injection eo45 with f1_ f2_ f3_; have f4_ := f1_.symm; have f5_ := f3_.symm; clear f1_ f2_ f3_; subst f4_; subst f5_))
          have p642 : 0 ≤ (x10_3 : Int) := of_decide_eq_true nx_
          have q642 : x10_3 < (x7_4.length : Int) := of_decide_eq_true nx_
          obtain ⟨ad642, e642, hx642_0⟩ := Kd.at_int (Kd.R_reads' HO_7.out).2.2 x10_3 p642 q642
          cases e642
          replace p642 := eq_true p642
          replace q642 := eq_true q642
          have p643 : 0 ≤ (x10_3 : Int) := of_decide_eq_true nx_
          have q643 : x10_3 < (x7_4.length : Int) := of_decide_eq_true nx_
          obtain ⟨ad643, e643, hx643_0⟩ := Kd.at_int (Kd.R_reads' HO_7.out).2.2 x10_3 p643 q643
          obtain rfl : ad642 = ad643 := (by injection e643)
          replace p643 := eq_true p643
          replace q643 := eq_true q643
          have p644 : 0 ≤ (x11_4 : Int) := of_decide_eq_true nx_
          have q644 : x11_4 < (l0_1.length : Int) := of_decide_eq_true nx_
          obtain ⟨ad644, e644, hx644_0, hx644_1, hx644_2, hx644_3, hx644_4⟩ := at_T33 HR0_1.out x11_4 p644 q644
          have hw644_4 := hx644_4
          have hw644_3 := hx644_3
          have hw644_2 := hx644_2
          have hw644_1 := hx644_1
          have hw644_0 := hx644_0
          obtain rfl : ad640 = ad644 := (by injection e644)
          replace hx644_0 := hb_ HB.out hx644_0
          replace hx644_1 := hb_ HB.out hx644_1
          replace hx644_2 := hb_ HB.out hx644_2
          replace hx644_3 := hb_ HB.out hx644_3
          replace hx644_4 := hb_ HB.out hx644_4
          replace p644 := eq_true p644
          replace q644 := eq_true q644
          have p645 : 0 ≤ (x11_4 : Int) := of_decide_eq_true nx_
          have q645 : x11_4 < (x7_4.length : Int) := of_decide_eq_true nx_
          obtain ⟨ad645, e645, hx645_0⟩ := Kd.at_int (Kd.R_reads' HO_7.out).2.2 x11_4 p645 q645
          obtain rfl : ad642 = ad645 := (by injection e645)
          replace p645 := eq_true p645
          replace q645 := eq_true q645
          refine start_ (n := 44) (S := fun w' => w'.cell? ⟨gb631, 0, none⟩ = some (.int .i64 a0_0) ∧ w'.cell? ⟨gb631, 1, none⟩ = some (.slice (some ad640) l0_1.length c0_1) ∧ w'.cell? (ad640.add ((x10_3).toNat * 5)) = some (.int .i64 ((rd_T33 l0_1 x10_3).f0)) ∧ w'.cell? ⟨(ad640.add ((x10_3).toNat * 5)).block, (ad640.add ((x10_3).toNat * 5)).off + 1, none⟩ = some (.int .i64 ((rd_T33 l0_1 x10_3).f1)) ∧ w'.cell? ⟨(ad640.add ((x10_3).toNat * 5)).block, (ad640.add ((x10_3).toNat * 5)).off + 2, none⟩ = some (.int .i64 ((rd_T33 l0_1 x10_3).f2)) ∧ w'.cell? ⟨(ad640.add ((x10_3).toNat * 5)).block, (ad640.add ((x10_3).toNat * 5)).off + 3, none⟩ = some (.int .i64 ((rd_T33 l0_1 x10_3).f3)) ∧ w'.cell? ⟨(ad640.add ((x10_3).toNat * 5)).block, (ad640.add ((x10_3).toNat * 5)).off + 4, none⟩ = some (.int .i64 ((rd_T33 l0_1 x10_3).f4)) ∧ w'.cell? (ad640.add ((x11_4).toNat * 5)) = some (.int .i64 ((rd_T33 l0_1 x11_4).f0)) ∧ w'.cell? ⟨(ad640.add ((x11_4).toNat * 5)).block, (ad640.add ((x11_4).toNat * 5)).off + 1, none⟩ = some (.int .i64 ((rd_T33 l0_1 x11_4).f1)) ∧ w'.cell? ⟨(ad640.add ((x11_4).toNat * 5)).block, (ad640.add ((x11_4).toNat * 5)).off + 2, none⟩ = some (.int .i64 ((rd_T33 l0_1 x11_4).f2)) ∧ w'.cell? ⟨(ad640.add ((x11_4).toNat * 5)).block, (ad640.add ((x11_4).toNat * 5)).off + 3, none⟩ = some (.int .i64 ((rd_T33 l0_1 x11_4).f3)) ∧ w'.cell? ⟨(ad640.add ((x11_4).toNat * 5)).block, (ad640.add ((x11_4).toNat * 5)).off + 4, none⟩ = some (.int .i64 ((rd_T33 l0_1 x11_4).f4)) ∧ w'.cell? (ad642.add (x10_3).toNat) = some (.int .i64 (rd x7_4 x10_3)) ∧ w'.cell? (ad642.add (x10_3).toNat) = some (.int .i64 (rd x7_4 x10_3)) ∧ w'.cell? (ad640.add ((x11_4).toNat * 5)) = some (.int .i64 ((rd_T33 l0_1 x11_4).f0)) ∧ w'.cell? ⟨(ad640.add ((x11_4).toNat * 5)).block, (ad640.add ((x11_4).toNat * 5)).off + 1, none⟩ = some (.int .i64 ((rd_T33 l0_1 x11_4).f1)) ∧ w'.cell? ⟨(ad640.add ((x11_4).toNat * 5)).block, (ad640.add ((x11_4).toNat * 5)).off + 2, none⟩ = some (.int .i64 ((rd_T33 l0_1 x11_4).f2)) ∧ w'.cell? ⟨(ad640.add ((x11_4).toNat * 5)).block, (ad640.add ((x11_4).toNat * 5)).off + 3, none⟩ = some (.int .i64 ((rd_T33 l0_1 x11_4).f3)) ∧ w'.cell? ⟨(ad640.add ((x11_4).toNat * 5)).block, (ad640.add ((x11_4).toNat * 5)).off + 4, none⟩ = some (.int .i64 ((rd_T33 l0_1 x11_4).f4)) ∧ w'.cell? (ad642.add (x11_4).toNat) = some (.int .i64 (rd x7_4 x11_4))) (ds := []) z88_0 (by kernel_rfl) rfl rfl ⟨ct_ BK631.out 0, ct_ BK631.out 1, ((HB.out.cell (World.block_lt_of_cell? w _ hw640_0)).trans hw640_0), ((HB.out.cell (World.block_lt_of_cell? w _ hw640_1)).trans hw640_1), ((HB.out.cell (World.block_lt_of_cell? w _ hw640_2)).trans hw640_2), ((HB.out.cell (World.block_lt_of_cell? w _ hw640_3)).trans hw640_3), ((HB.out.cell (World.block_lt_of_cell? w _ hw640_4)).trans hw640_4), ((HB.out.cell (World.block_lt_of_cell? w _ hw641_0)).trans hw641_0), ((HB.out.cell (World.block_lt_of_cell? w _ hw641_1)).trans hw641_1), ((HB.out.cell (World.block_lt_of_cell? w _ hw641_2)).trans hw641_2), ((HB.out.cell (World.block_lt_of_cell? w _ hw641_3)).trans hw641_3), ((HB.out.cell (World.block_lt_of_cell? w _ hw641_4)).trans hw641_4), hx642_0, hx643_0, ((HB.out.cell (World.block_lt_of_cell? w _ hw644_0)).trans hw644_0), ((HB.out.cell (World.block_lt_of_cell? w _ hw644_1)).trans hw644_1), ((HB.out.cell (World.block_lt_of_cell? w _ hw644_2)).trans hw644_2), ((HB.out.cell (World.block_lt_of_cell? w _ hw644_3)).trans hw644_3), ((HB.out.cell (World.block_lt_of_cell? w _ hw644_4)).trans hw644_4), hx645_0⟩ (fun hHeld => ?_); refine with_tabW spec_l4Arcs.tab18 spec_l4Arcs.bits18 (fun HT_ HW_ => ?_)
          generalize wr.drew = w44 at HO_7 BK631 HB hx640_0 hx640_1 hx640_2 hx640_3 hx640_4 hx641_0 hx641_1 hx641_2 hx641_3 hx641_4 hx642_0 hx643_0 hx644_0 hx644_1 hx644_2 hx644_3 hx644_4 hx645_0 hHeld ⊢
          refine pu_ 0 69 z88_1 HT_.out ?_
          refine pu_ 2 71 z88_2 HT_.out ?_
          refine pu_ 6 75 z88_3 HT_.out ?_
          refine pu_ 8 77 z88_4 HT_.out ?_
          refine tk_ 1 70 z88_5 HT_.out HW_.out hHeld ?_
          refine pu_ 3 72 z88_6 HT_.out ?_
          refine pu_ 4 73 z88_7 HT_.out ?_
          refine tk_ 5 74 z88_8 HT_.out HW_.out hHeld ?_
          refine tk_ 7 76 z88_9 HT_.out HW_.out hHeld ?_
          refine pu_ 9 78 z88_10 HT_.out ?_
          refine pu_ 10 79 z88_11 HT_.out ?_
          refine tk_ 11 80 z88_12 HT_.out HW_.out hHeld ?_
          refine pu_ 12 81 z88_13 HT_.out ?_
          refine pu_ 13 82 z88_14 HT_.out ?_
          refine pu_ 14 83 z88_15 HT_.out ?_
          refine pu_ 15 84 z88_16 HT_.out ?_
          refine pu_ 16 85 z88_17 HT_.out ?_
          refine pu_ 17 86 z88_18 HT_.out ?_
          refine pu_ 18 87 z88_19 HT_.out ?_
          refine pu_ 19 88 z88_20 HT_.out ?_
          refine pu_ 20 89 z88_21 HT_.out ?_
          refine tk_ 21 90 z88_22 HT_.out HW_.out hHeld ?_
          refine pu_ 22 91 z88_23 HT_.out ?_
          refine pu_ 23 92 z88_24 HT_.out ?_
          refine pu_ 24 93 z88_25 HT_.out ?_
          refine pu_ 25 94 z88_26 HT_.out ?_
          refine pu_ 26 95 z88_27 HT_.out ?_
          refine pu_ 27 96 z88_28 HT_.out ?_
          refine pu_ 29 98 z88_29 HT_.out ?_
          refine pu_ 31 100 z88_30 HT_.out ?_
          refine pu_ 33 102 z88_31 HT_.out ?_
          refine pu_ 38 107 z88_32 HT_.out ?_
          refine pu_ 39 108 z88_33 HT_.out ?_
          refine pu_ 40 109 z88_34 HT_.out ?_
          refine tk_ 28 97 z88_35 HT_.out HW_.out hHeld ?_
          refine pu_ 30 99 z88_36 HT_.out ?_
          refine tk_ 32 101 z88_37 HT_.out HW_.out hHeld ?_
          refine pu_ 34 103 z88_38 HT_.out ?_
          refine pu_ 35 104 z88_39 HT_.out ?_
          refine tk_ 36 105 z88_40 HT_.out HW_.out hHeld ?_
          refine pu_ 37 106 z88_41 HT_.out ?_
          refine tk_ 41 110 z88_42 HT_.out HW_.out hHeld ?_
          refine pu_ 42 111 z88_43 HT_.out ?_
          refine pu_ 43 112 z88_44 HT_.out ?_
          refine done_ (done_of HT_.out (by kernel_rfl)) ?_
          try go_wp2
          replace HO_7 := Aside0.mk (Kd.R_drew HO_7.out)
          replace BK631 := Aside0.mk (blk_drew BK631.out)
          replace HB := Aside0.mk (below_drew1 HB.out)
          have p646 : 0 ≤ (x10_3 : Int) := of_decide_eq_true nx_
          have q646 : x10_3 < (x7_4.length : Int) := of_decide_eq_true nx_
          obtain ⟨ad646, e646, hx646_0⟩ := Kd.at_int (Kd.R_reads' HO_7.out).2.2 x10_3 p646 q646
          obtain rfl : ad642 = ad646 := (by injection e646)
          replace p646 := eq_true p646
          replace q646 := eq_true q646
          have p647 : 0 ≤ (x11_4 : Int) := of_decide_eq_true nx_
          have q647 : x11_4 < (l0_1.length : Int) := of_decide_eq_true nx_
          obtain ⟨ad647, e647, hx647_0, hx647_1, hx647_2, hx647_3, hx647_4⟩ := at_T33 HR0_1.out x11_4 p647 q647
          have hw647_4 := hx647_4
          have hw647_3 := hx647_3
          have hw647_2 := hx647_2
          have hw647_1 := hx647_1
          have hw647_0 := hx647_0
          obtain rfl : ad640 = ad647 := (by injection e647)
          replace hx647_0 := hb_ HB.out hx647_0
          replace hx647_1 := hb_ HB.out hx647_1
          replace hx647_2 := hb_ HB.out hx647_2
          replace hx647_3 := hb_ HB.out hx647_3
          replace hx647_4 := hb_ HB.out hx647_4
          replace p647 := eq_true p647
          replace q647 := eq_true q647
          have p42 : 0 ≤ (x11_4 : Int) := of_decide_eq_true nx_
          have q42 : (x11_4 : Int) < ((x7_4.length : Int) : Int) := of_decide_eq_true nx_
          obtain ⟨go42, co42, eo42, gb42, gl42, cl42, HG42⟩ := Kd.R_form HO_7.out (by omega)
          (first | cases eo42 | (injection eo42 with ea_ en_ ec_; (first | subst ea_ | (injection ea_ with ea_; subst ea_)); subst ec_; clear en_))
          have GB42 := Aside0.mk gb42
          have GG42 := Aside0.mk HG42
          clear gb42 gl42 HG42
          (first | simp only [add_plain] at hx642_0 | skip)
          (first | simp only [add_plain] at hx643_0 | skip)
          (first | simp only [add_plain] at hx645_0 | skip)
          (first | simp only [add_plain] at hx646_0 | skip)
          obtain ⟨hx42_0, hf42_0⟩ := Kd.R_celln 0 HO_7.out (x11_4 : Int) p42 q42
          replace p42 := eq_true p42
          replace q42 := eq_true q42
          have HP47 := Kd.R_putn HO_7.out (x11_4 : Int) (wrap64 ((wrap64 ((rd x7_4 x10_3) + t639)) + ((rd_T33 l0_1 x11_4).f2)))
          rw [← Ny648.out] at HP47
          have HQ47 := Aside0.mk HP47
          clear HP47
          refine start_ (n := 17) (S := fun w' => w'.cell? ⟨gb631, 0, none⟩ = some (.int .i64 a0_0) ∧ w'.cell? ⟨gb631, 1, none⟩ = some (.slice (some ad640) l0_1.length c0_1) ∧ w'.cell? ⟨go42, (x10_3).toNat, none⟩ = some (.int .i64 (rd x7_4 x10_3)) ∧ w'.cell? (ad640.add ((x11_4).toNat * 5)) = some (.int .i64 ((rd_T33 l0_1 x11_4).f0)) ∧ w'.cell? ⟨(ad640.add ((x11_4).toNat * 5)).block, (ad640.add ((x11_4).toNat * 5)).off + 1, none⟩ = some (.int .i64 ((rd_T33 l0_1 x11_4).f1)) ∧ w'.cell? ⟨(ad640.add ((x11_4).toNat * 5)).block, (ad640.add ((x11_4).toNat * 5)).off + 2, none⟩ = some (.int .i64 ((rd_T33 l0_1 x11_4).f2)) ∧ w'.cell? ⟨(ad640.add ((x11_4).toNat * 5)).block, (ad640.add ((x11_4).toNat * 5)).off + 3, none⟩ = some (.int .i64 ((rd_T33 l0_1 x11_4).f3)) ∧ w'.cell? ⟨(ad640.add ((x11_4).toNat * 5)).block, (ad640.add ((x11_4).toNat * 5)).off + 4, none⟩ = some (.int .i64 ((rd_T33 l0_1 x11_4).f4))) (ds := [16]) (bm_ 17 0) (by kernel_rfl) rfl rfl ⟨ct_ BK631.out 0, ct_ BK631.out 1, hx646_0, ((HB.out.cell (World.block_lt_of_cell? w _ hw647_0)).trans hw647_0), ((HB.out.cell (World.block_lt_of_cell? w _ hw647_1)).trans hw647_1), ((HB.out.cell (World.block_lt_of_cell? w _ hw647_2)).trans hw647_2), ((HB.out.cell (World.block_lt_of_cell? w _ hw647_3)).trans hw647_3), ((HB.out.cell (World.block_lt_of_cell? w _ hw647_4)).trans hw647_4)⟩ (fun hHeld => ?_); refine with_tabW spec_l4Arcs.tab19 spec_l4Arcs.bits19 (fun HT_ HW_ => ?_)
          generalize w44.drew = w46 at HO_7 BK631 HB GG42 HQ47 hf42_0 hx42_0 hx642_0 hx643_0 hx645_0 hx646_0 hx647_0 hx647_1 hx647_2 hx647_3 hx647_4 hHeld ⊢
          refine pu_ 0 113 (bm_ 17 1) HT_.out ?_
          refine pu_ 1 114 (bm_ 17 3) HT_.out ?_
          refine pu_ 2 115 (bm_ 17 7) HT_.out ?_
          refine pu_ 3 116 (bm_ 17 15) HT_.out ?_
          refine pu_ 4 117 (bm_ 17 31) HT_.out ?_
          refine pu_ 6 119 (bm_ 17 95) HT_.out ?_
          refine pu_ 8 121 (bm_ 17 351) HT_.out ?_
          refine pu_ 10 123 (bm_ 17 1375) HT_.out ?_
          refine tk_ 5 118 (bm_ 17 1407) HT_.out HW_.out hHeld ?_
          refine pu_ 7 120 (bm_ 17 1535) HT_.out ?_
          refine tk_ 9 122 (bm_ 17 2047) HT_.out HW_.out hHeld ?_
          refine pu_ 11 124 (bm_ 17 4095) HT_.out ?_
          refine pu_ 12 125 (bm_ 17 8191) HT_.out ?_
          refine tk_ 13 126 (bm_ 17 16383) HT_.out HW_.out hHeld ?_
          refine pu_ 14 127 (bm_ 17 32767) HT_.out ?_
          refine pu_ 15 128 (bm_ 17 65535) HT_.out ?_
          refine last_ (i := 16) (N := none) (bm_ 17 131071) rfl rfl (one_of HT_.out (by kernel_rfl)) (by decide) (fun K hK => ?_)
          refine skip_ (w1 := ?_) (by rfl) rfl ?_ ?_
          rotate_left
          ·go_simp
           rfl
          refine hK.out _ _ ?_
          clear hK K
          refine done_ (done_of HT_.out (by kernel_rfl)) ?_
          try go_wp2
          go_roundg k4
          case measure => have := HK1.out; have := HK2.out; have := HK3.out; have := HK4.out; omega
          case rel => exact ⟨(y648), (wrap64 (x11_4 + 1)), ns_, H', ⟨by have := HK1.out; have := HK2.out; have := HK3.out; have := HK4.out; omega⟩, ⟨nr_ HQ47.out⟩, ⟨by (with_reducible repeat (first | refine blk_drewN ?_ _ | refine blk_drew ?_ | refine blk_alloc ?_ _)); refine blk_far ?_ (by have h_ := Kd.R_ne HO_7.out BK631.out (by decide); intro e_; exact h_ (by rw [e_]; rfl)) _; (with_reducible repeat (first | refine blk_drewN ?_ _ | refine blk_drew ?_ | refine blk_alloc ?_ _)); exact BK631.out⟩, ⟨ne_ HB.out⟩⟩
end Go.Proofs.Ytcfmejfmjjgoaaa.Print
