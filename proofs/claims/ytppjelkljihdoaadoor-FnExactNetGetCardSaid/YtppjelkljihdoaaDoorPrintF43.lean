-- Made by this session's own program (wip/patch_print.py, over the kit's print). Lean checks it.
import Derived.Test.YtppjelkljihdoaaDoorPrint0
import Derived.Test.YtppjelkljihdoaaDoorPrintF61
namespace Go.Proofs.YtppjelkljihdoaaDoor.Print
open Go.RowKit Go.Proofs.YtppjelkljihdoaaDoorW.PrintWords Go.Proofs.YtppjelkljihdoaaDoorW.PrintLast Go.Proofs.YtppjelkljihdoaaDoorW.PrintMore Go.Proofs.YtppjelkljihdoaaDoorX
attribute [local go_sem] max2_int min2_int max_two min_two max_three min_three max_four min_four   -- for this text's walks alone
set_option linter.unusedVariables false
set_option linter.unusedSimpArgs false

abbrev z43_0 := bm_ 10 0
abbrev z43_1 := bm_ 10 1
abbrev z43_2 := bm_ 10 3
abbrev z43_3 := bm_ 10 7
abbrev z43_4 := bm_ 10 23
abbrev z43_5 := bm_ 10 55
abbrev z43_6 := bm_ 10 119
abbrev z43_7 := bm_ 10 127
abbrev z43_8 := bm_ 10 255
abbrev z43_9 := bm_ 10 511
abbrev z43_10 := bm_ 10 1023
/-! ### laws_eqArcS: function 43 -/
def laws_eqArcS.l0 : Nat → List (S54) → List (S54) → Int → Option (Bool)
  | 0, _, _, _ => none
  | k + 1, x0, x1, x5 => if x5 < (x0.length : Int) then (if 0 ≤ x5 then (if x5 < (x1.length : Int) then ((laws_eqArc.f ((rd_T54 x0 x5).f0) ((rd_T54 x0 x5).f1) ((rd_T54 x0 x5).f2) ((rd_T54 x0 x5).f3) ((rd_T54 x0 x5).f4) ((rd_T54 x1 x5).f0) ((rd_T54 x1 x5).f1) ((rd_T54 x1 x5).f2) ((rd_T54 x1 x5).f3) ((rd_T54 x1 x5).f4)).bind fun t374 => (if t374 = true then (laws_eqArcS.l0 k x0 x1 (wrap64 (x5 + 1))) else (some false))) else (none)) else (none)) else (some true)
def laws_eqArcS.f (k : Nat) (l0 : List (S54)) (l1 : List (S54)) : Option (Bool) := if (l0.length : Int) = (l1.length : Int) then (laws_eqArcS.l0 k l0 l1 0) else (some false)
theorem laws_eqArcS.mono_l : ∀ k, (∀ y0 y1 y2, LeO (laws_eqArcS.l0 k y0 y1 y2) (laws_eqArcS.l0 (k + 1) y0 y1 y2))
  | 0 => fun _ _ _ r h => by simp [laws_eqArcS.l0] at h
  | k + 1 => by
    have ih0 := laws_eqArcS.mono_l k
    · intro y0 y1 y2
      unfold laws_eqArcS.l0
      repeat' first | (with_reducible first | exact ih0 _ _ _ | exact LeO.refl _ | exact LeO.none _ | refine LeO.ite ?_ ?_ | refine LeO.bind ?_ (fun _ => ?_)) | exact ih0 _ _ _ | exact LeO.none _ | refine LeO.ite ?_ ?_ | refine LeO.bind ?_ (fun _ => ?_)
theorem laws_eqArcS.mono : ∀ a0 a1 k, LeO (laws_eqArcS.f k a0 a1) (laws_eqArcS.f (k + 1) a0 a1) := by
  intro a0 a1 k
  have ih0 := laws_eqArcS.mono_l k
  unfold laws_eqArcS.f
  repeat' first | (with_reducible first | exact ih0 _ _ _ | exact LeO.refl _ | exact LeO.none _ | refine LeO.ite ?_ ?_ | refine LeO.bind ?_ (fun _ => ?_)) | exact ih0 _ _ _ | exact LeO.none _ | refine LeO.ite ?_ ?_ | refine LeO.bind ?_ (fun _ => ?_)
def laws_eqArcS.T6 : Bool × List (List Nat × List Nat) := (true, [([], []), ([], []), ([0, 1], [0, 1]), ([2], [2]), ([], []), ([], []), ([4, 5], [4, 5]), ([6], [6]), ([3, 7], [3, 7]), ([8], [8])])
def laws_eqArcS.B6 : List Nat := [0, 0, 3, 7, 0, 0, 48, 112, 255, 511]
theorem laws_eqArcS.tab6 : rtab .any (opsOf Tryd.f43 6) = laws_eqArcS.T6 := by kernel_rfl
theorem laws_eqArcS.bits6 : waitsOk laws_eqArcS.T6.2 laws_eqArcS.B6 = true := by kernel_rfl
set_option maxHeartbeats 200000000 in
set_option maxRecDepth 100000 in
theorem laws_eqArcS.calls (k : Nat) (A0 : Option Addr) (c0 : Nat) (l0 : List (S54)) (A1 : Option Addr) (c1 : Nat) (l1 : List (S54)) (r : Bool) (w : World) (hr0 : Kd.C k54 w A0 l0.length l0) (hc0 : l0.length ≤ c0) (hr1 : Kd.C k54 w A1 l1.length l1) (hc1 : l1.length ≤ c1) (h : laws_eqArcS.f k l0 l1 = some r) :
    Calls Tryd.prog 43 #[.slice A0 l0.length c0, .slice A1 l1.length c1] w fun e w' => e = .returned (.bool r) ∧ Below w.heap.size w w' := by
  have hu54 := Tryd.underlying54
  have HR0 := Aside0.mk hr0
  have HC0 := Aside0.mk hc0
  clear hr0 hc0
  have HR1 := Aside0.mk hr1
  have HC1 := Aside0.mk hc1
  clear hr1 hc1
  have HB := Aside0.mk (Below.refl w.heap.size w)
  have H : (if (l0.length : Int) = (l1.length : Int) then (laws_eqArcS.l0 k l0 l1 0) else (some false)) = some r := h
  clear h
  by_cases c3 : (l0.length : Int) = (l1.length : Int)
  rotate_left
  ·rw [if_neg c3] at H
   have c3b0 : ((l0.length : Int) == (l1.length : Int)) = false := beq_eq_false_iff_ne.mpr c3
   have c3b1 : ((l0.length : Int) != (l1.length : Int)) = true := bne_iff_ne.mpr c3
   have c3b2 : (l0.length == l1.length) = false := by first | simpa using c3 | (simp at c3 ⊢; omega)
   obtain rfl := Option.some.inj H
   go_enter Tryd.func43, Tryd.ntmps43
   go_wp2
   go_ret
   exact ⟨nw_, ne_ HB.out⟩

  rw [if_pos c3] at H
  have c3b0 : ((l0.length : Int) == (l1.length : Int)) = true := beq_iff_eq.mpr c3
  have c3b1 : ((l0.length : Int) != (l1.length : Int)) = false := bne_eq_false_iff_eq.mpr c3
  have c3b2 : (l0.length == l1.length) = true := by first | simpa using c3 | (simp at c3 ⊢; omega)
  clear c3
  have H' := Aside0.mk H
  clear H
  go_enter Tryd.func43, Tryd.ntmps43
  go_wp2
  go_loopg [5] k (fun kq v5 w' => ∃ (x5_1 : Int), v5 = .int .i64 x5_1 ∧ Aside0 (laws_eqArcS.l0 kq l0 l1 x5_1 = some r) ∧ Aside0 (kq ≤ k) ∧ Aside0 (Below w.heap.size w w'))
  case atStart => exact ⟨(0), ns_, H', ⟨Nat.le_refl _⟩, ⟨ne_ HB.out⟩⟩
  case round =>
   clear H'
   try clear c1
   try clear c3
   try clear c3b0
   try clear c3b1
   try clear c3b2
   obtain ⟨x5_1, rfl, HA, HK1, HB⟩ := hrel
   cases gk with
   | zero => exact absurd HA.out (by simp [laws_eqArcS.l0])
   | succ k1 =>
    have H := HA.out
    clear HA
    simp only [laws_eqArcS.l0] at H
    by_cases c4 : x5_1 < (l0.length : Int)
    rotate_left
    ·rw [if_neg c4] at H
     have c4b0 : decide (x5_1 < (l0.length : Int)) = false := decide_eq_false c4
     clear c4
     obtain rfl := Option.some.inj H
     go_wp2
     go_ret
     exact ⟨nw_, ne_ HB.out⟩
    rw [if_pos c4] at H
    have c4b0 : decide (x5_1 < (l0.length : Int)) = true := decide_eq_true c4
    clear c4
    by_cases c5 : 0 ≤ x5_1
    rotate_left
    ·rw [if_neg c5] at H
     exact absurd H (by simp)
    rw [if_pos c5] at H
    have c5b0 : decide (0 ≤ x5_1) = true := decide_eq_true c5
    clear c5
    by_cases c6 : x5_1 < (l1.length : Int)
    rotate_left
    ·rw [if_neg c6] at H
     exact absurd H (by simp)
    rw [if_pos c6] at H
    have c6b0 : decide (x5_1 < (l1.length : Int)) = true := decide_eq_true c6
    clear c6
    replace H := Option.bind_eq_some_iff.mp H
    obtain ⟨t374, A70, H⟩ := H
    replace H : (if t374 = true then (laws_eqArcS.l0 k1 l0 l1 (wrap64 (x5_1 + 1))) else (some false)) = some r := H
    have A7 := Aside0.mk A70
    clear A70
    by_cases c8 : t374 = true
    rotate_left
    ·replace c8 := Bool.eq_false_iff.mpr c8
     subst c8
     have H1 : (some false) = some r := by rw [if_neg (show ¬ (false = true) by decide)] at H; exact H
     clear H
     have H := H1
     clear H1
     obtain rfl := Option.some.inj H
     try go_wp2
     replace HB := Aside0.mk (below_drew1 HB.out)
     have p372 : 0 ≤ (x5_1 : Int) := of_decide_eq_true nx_
     have q372 : x5_1 < (l0.length : Int) := of_decide_eq_true nx_
     obtain ⟨ad372, e372, hx372_0, hx372_1, hx372_2, hx372_3, hx372_4⟩ := at_T54 HR0.out x5_1 p372 q372
     have hw372_4 := hx372_4
     have hw372_3 := hx372_3
     have hw372_2 := hx372_2
     have hw372_1 := hx372_1
     have hw372_0 := hx372_0
     cases e372
     replace hx372_0 := hb_ HB.out hx372_0
     replace hx372_1 := hb_ HB.out hx372_1
     replace hx372_2 := hb_ HB.out hx372_2
     replace hx372_3 := hb_ HB.out hx372_3
     replace hx372_4 := hb_ HB.out hx372_4
     replace p372 := eq_true p372
     replace q372 := eq_true q372
     have p373 : 0 ≤ (x5_1 : Int) := of_decide_eq_true nx_
     have q373 : x5_1 < (l1.length : Int) := of_decide_eq_true nx_
     obtain ⟨ad373, e373, hx373_0, hx373_1, hx373_2, hx373_3, hx373_4⟩ := at_T54 HR1.out x5_1 p373 q373
     have hw373_4 := hx373_4
     have hw373_3 := hx373_3
     have hw373_2 := hx373_2
     have hw373_1 := hx373_1
     have hw373_0 := hx373_0
     cases e373
     replace hx373_0 := hb_ HB.out hx373_0
     replace hx373_1 := hb_ HB.out hx373_1
     replace hx373_2 := hb_ HB.out hx373_2
     replace hx373_3 := hb_ HB.out hx373_3
     replace hx373_4 := hb_ HB.out hx373_4
     replace p373 := eq_true p373
     replace q373 := eq_true q373
     refine start_ (n := 10) (S := fun w' => w'.cell? (ad372.add ((x5_1).toNat * 5)) = some (.int .i64 ((rd_T54 l0 x5_1).f0)) ∧ w'.cell? ⟨(ad372.add ((x5_1).toNat * 5)).block, (ad372.add ((x5_1).toNat * 5)).off + 1, none⟩ = some (.int .i64 ((rd_T54 l0 x5_1).f1)) ∧ w'.cell? ⟨(ad372.add ((x5_1).toNat * 5)).block, (ad372.add ((x5_1).toNat * 5)).off + 2, none⟩ = some (.int .i64 ((rd_T54 l0 x5_1).f2)) ∧ w'.cell? ⟨(ad372.add ((x5_1).toNat * 5)).block, (ad372.add ((x5_1).toNat * 5)).off + 3, none⟩ = some (.int .i64 ((rd_T54 l0 x5_1).f3)) ∧ w'.cell? ⟨(ad372.add ((x5_1).toNat * 5)).block, (ad372.add ((x5_1).toNat * 5)).off + 4, none⟩ = some (.int .i64 ((rd_T54 l0 x5_1).f4)) ∧ w'.cell? (ad373.add ((x5_1).toNat * 5)) = some (.int .i64 ((rd_T54 l1 x5_1).f0)) ∧ w'.cell? ⟨(ad373.add ((x5_1).toNat * 5)).block, (ad373.add ((x5_1).toNat * 5)).off + 1, none⟩ = some (.int .i64 ((rd_T54 l1 x5_1).f1)) ∧ w'.cell? ⟨(ad373.add ((x5_1).toNat * 5)).block, (ad373.add ((x5_1).toNat * 5)).off + 2, none⟩ = some (.int .i64 ((rd_T54 l1 x5_1).f2)) ∧ w'.cell? ⟨(ad373.add ((x5_1).toNat * 5)).block, (ad373.add ((x5_1).toNat * 5)).off + 3, none⟩ = some (.int .i64 ((rd_T54 l1 x5_1).f3)) ∧ w'.cell? ⟨(ad373.add ((x5_1).toNat * 5)).block, (ad373.add ((x5_1).toNat * 5)).off + 4, none⟩ = some (.int .i64 ((rd_T54 l1 x5_1).f4))) (ds := []) z43_0 (by kernel_rfl) rfl rfl ⟨((HB.out.cell (World.block_lt_of_cell? w _ hw372_0)).trans hw372_0), ((HB.out.cell (World.block_lt_of_cell? w _ hw372_1)).trans hw372_1), ((HB.out.cell (World.block_lt_of_cell? w _ hw372_2)).trans hw372_2), ((HB.out.cell (World.block_lt_of_cell? w _ hw372_3)).trans hw372_3), ((HB.out.cell (World.block_lt_of_cell? w _ hw372_4)).trans hw372_4), ((HB.out.cell (World.block_lt_of_cell? w _ hw373_0)).trans hw373_0), ((HB.out.cell (World.block_lt_of_cell? w _ hw373_1)).trans hw373_1), ((HB.out.cell (World.block_lt_of_cell? w _ hw373_2)).trans hw373_2), ((HB.out.cell (World.block_lt_of_cell? w _ hw373_3)).trans hw373_3), ((HB.out.cell (World.block_lt_of_cell? w _ hw373_4)).trans hw373_4)⟩ (fun hHeld => ?_); refine with_tabW laws_eqArcS.tab6 laws_eqArcS.bits6 (fun HT_ HW_ => ?_)
     generalize wr.drew = w11 at HB hx372_0 hx372_1 hx372_2 hx372_3 hx372_4 hx373_0 hx373_1 hx373_2 hx373_3 hx373_4 hHeld ⊢
     refine pu_ 0 17 z43_1 HT_.out ?_
     refine pu_ 1 18 z43_2 HT_.out ?_
     refine pu_ 2 19 z43_3 HT_.out ?_
     refine pu_ 4 21 z43_4 HT_.out ?_
     refine pu_ 5 22 z43_5 HT_.out ?_
     refine pu_ 6 23 z43_6 HT_.out ?_
     refine tk_ 3 20 z43_7 HT_.out HW_.out hHeld ?_
     refine tk_ 7 24 z43_8 HT_.out HW_.out hHeld ?_
     refine one_ (i := 8) (N := some 25) z43_9 rfl rfl (one_of HT_.out (by kernel_rfl)) (by decide) (fun K hK => ?_)
     refine go_ Tryd.func61 #[.agg #[.int .i64 ((rd_T54 l0 x5_1).f0), .int .i64 ((rd_T54 l0 x5_1).f1), .int .i64 ((rd_T54 l0 x5_1).f2), .int .i64 ((rd_T54 l0 x5_1).f3), .int .i64 ((rd_T54 l0 x5_1).f4)], .agg #[.int .i64 ((rd_T54 l1 x5_1).f0), .int .i64 ((rd_T54 l1 x5_1).f1), .int .i64 ((rd_T54 l1 x5_1).f2), .int .i64 ((rd_T54 l1 x5_1).f3), .int .i64 ((rd_T54 l1 x5_1).f4)]] ?_
     with_reducible refine (laws_eqArc.calls ((rd_T54 l0 x5_1).f0) ((rd_T54 l0 x5_1).f1) ((rd_T54 l0 x5_1).f2) ((rd_T54 l0 x5_1).f3) ((rd_T54 l0 x5_1).f4) ((rd_T54 l1 x5_1).f0) ((rd_T54 l1 x5_1).f1) ((rd_T54 l1 x5_1).f2) ((rd_T54 l1 x5_1).f3) ((rd_T54 l1 x5_1).f4) false _ A7.out).mono ?_
     rintro e w12 ⟨rfl, hb⟩
     refine ⟨_, rfl, ?_⟩
     replace HB := kB_ HB hb
     (try clear hb)
     (try clear hb2)
     (try clear hk)
     (try clear hi)
     refine hK.out _ _ ⟨((HB.out.cell (World.block_lt_of_cell? w _ hw372_0)).trans hw372_0), ((HB.out.cell (World.block_lt_of_cell? w _ hw372_1)).trans hw372_1), ((HB.out.cell (World.block_lt_of_cell? w _ hw372_2)).trans hw372_2), ((HB.out.cell (World.block_lt_of_cell? w _ hw372_3)).trans hw372_3), ((HB.out.cell (World.block_lt_of_cell? w _ hw372_4)).trans hw372_4), ((HB.out.cell (World.block_lt_of_cell? w _ hw373_0)).trans hw373_0), ((HB.out.cell (World.block_lt_of_cell? w _ hw373_1)).trans hw373_1), ((HB.out.cell (World.block_lt_of_cell? w _ hw373_2)).trans hw373_2), ((HB.out.cell (World.block_lt_of_cell? w _ hw373_3)).trans hw373_3), ((HB.out.cell (World.block_lt_of_cell? w _ hw373_4)).trans hw373_4)⟩ (fun hHeld => ?_)
     clear hK K
     refine nm1_ (some 25) ?_
     refine pu_ 9 26 z43_10 HT_.out ?_
     refine done_ (done_of HT_.out (by kernel_rfl)) ?_
     try go_wp2
     go_ret
     exact ⟨nw_, ne_ HB.out⟩
    subst c8
    have H1 : (laws_eqArcS.l0 k1 l0 l1 (wrap64 (x5_1 + 1))) = some r := by rw [if_pos rfl] at H; exact H
    clear H
    have H := H1
    clear H1
    have H' := Aside0.mk H
    clear H
    try go_wp2
    replace HB := Aside0.mk (below_drew1 HB.out)
    have p372 : 0 ≤ (x5_1 : Int) := of_decide_eq_true nx_
    have q372 : x5_1 < (l0.length : Int) := of_decide_eq_true nx_
    obtain ⟨ad372, e372, hx372_0, hx372_1, hx372_2, hx372_3, hx372_4⟩ := at_T54 HR0.out x5_1 p372 q372
    have hw372_4 := hx372_4
    have hw372_3 := hx372_3
    have hw372_2 := hx372_2
    have hw372_1 := hx372_1
    have hw372_0 := hx372_0
    cases e372
    replace hx372_0 := hb_ HB.out hx372_0
    replace hx372_1 := hb_ HB.out hx372_1
    replace hx372_2 := hb_ HB.out hx372_2
    replace hx372_3 := hb_ HB.out hx372_3
    replace hx372_4 := hb_ HB.out hx372_4
    replace p372 := eq_true p372
    replace q372 := eq_true q372
    have p373 : 0 ≤ (x5_1 : Int) := of_decide_eq_true nx_
    have q373 : x5_1 < (l1.length : Int) := of_decide_eq_true nx_
    obtain ⟨ad373, e373, hx373_0, hx373_1, hx373_2, hx373_3, hx373_4⟩ := at_T54 HR1.out x5_1 p373 q373
    have hw373_4 := hx373_4
    have hw373_3 := hx373_3
    have hw373_2 := hx373_2
    have hw373_1 := hx373_1
    have hw373_0 := hx373_0
    cases e373
    replace hx373_0 := hb_ HB.out hx373_0
    replace hx373_1 := hb_ HB.out hx373_1
    replace hx373_2 := hb_ HB.out hx373_2
    replace hx373_3 := hb_ HB.out hx373_3
    replace hx373_4 := hb_ HB.out hx373_4
    replace p373 := eq_true p373
    replace q373 := eq_true q373
    refine start_ (n := 10) (S := fun w' => w'.cell? (ad372.add ((x5_1).toNat * 5)) = some (.int .i64 ((rd_T54 l0 x5_1).f0)) ∧ w'.cell? ⟨(ad372.add ((x5_1).toNat * 5)).block, (ad372.add ((x5_1).toNat * 5)).off + 1, none⟩ = some (.int .i64 ((rd_T54 l0 x5_1).f1)) ∧ w'.cell? ⟨(ad372.add ((x5_1).toNat * 5)).block, (ad372.add ((x5_1).toNat * 5)).off + 2, none⟩ = some (.int .i64 ((rd_T54 l0 x5_1).f2)) ∧ w'.cell? ⟨(ad372.add ((x5_1).toNat * 5)).block, (ad372.add ((x5_1).toNat * 5)).off + 3, none⟩ = some (.int .i64 ((rd_T54 l0 x5_1).f3)) ∧ w'.cell? ⟨(ad372.add ((x5_1).toNat * 5)).block, (ad372.add ((x5_1).toNat * 5)).off + 4, none⟩ = some (.int .i64 ((rd_T54 l0 x5_1).f4)) ∧ w'.cell? (ad373.add ((x5_1).toNat * 5)) = some (.int .i64 ((rd_T54 l1 x5_1).f0)) ∧ w'.cell? ⟨(ad373.add ((x5_1).toNat * 5)).block, (ad373.add ((x5_1).toNat * 5)).off + 1, none⟩ = some (.int .i64 ((rd_T54 l1 x5_1).f1)) ∧ w'.cell? ⟨(ad373.add ((x5_1).toNat * 5)).block, (ad373.add ((x5_1).toNat * 5)).off + 2, none⟩ = some (.int .i64 ((rd_T54 l1 x5_1).f2)) ∧ w'.cell? ⟨(ad373.add ((x5_1).toNat * 5)).block, (ad373.add ((x5_1).toNat * 5)).off + 3, none⟩ = some (.int .i64 ((rd_T54 l1 x5_1).f3)) ∧ w'.cell? ⟨(ad373.add ((x5_1).toNat * 5)).block, (ad373.add ((x5_1).toNat * 5)).off + 4, none⟩ = some (.int .i64 ((rd_T54 l1 x5_1).f4))) (ds := []) z43_0 (by kernel_rfl) rfl rfl ⟨((HB.out.cell (World.block_lt_of_cell? w _ hw372_0)).trans hw372_0), ((HB.out.cell (World.block_lt_of_cell? w _ hw372_1)).trans hw372_1), ((HB.out.cell (World.block_lt_of_cell? w _ hw372_2)).trans hw372_2), ((HB.out.cell (World.block_lt_of_cell? w _ hw372_3)).trans hw372_3), ((HB.out.cell (World.block_lt_of_cell? w _ hw372_4)).trans hw372_4), ((HB.out.cell (World.block_lt_of_cell? w _ hw373_0)).trans hw373_0), ((HB.out.cell (World.block_lt_of_cell? w _ hw373_1)).trans hw373_1), ((HB.out.cell (World.block_lt_of_cell? w _ hw373_2)).trans hw373_2), ((HB.out.cell (World.block_lt_of_cell? w _ hw373_3)).trans hw373_3), ((HB.out.cell (World.block_lt_of_cell? w _ hw373_4)).trans hw373_4)⟩ (fun hHeld => ?_); refine with_tabW laws_eqArcS.tab6 laws_eqArcS.bits6 (fun HT_ HW_ => ?_)
    generalize wr.drew = w9 at HB hx372_0 hx372_1 hx372_2 hx372_3 hx372_4 hx373_0 hx373_1 hx373_2 hx373_3 hx373_4 hHeld ⊢
    refine pu_ 0 17 z43_1 HT_.out ?_
    refine pu_ 1 18 z43_2 HT_.out ?_
    refine pu_ 2 19 z43_3 HT_.out ?_
    refine pu_ 4 21 z43_4 HT_.out ?_
    refine pu_ 5 22 z43_5 HT_.out ?_
    refine pu_ 6 23 z43_6 HT_.out ?_
    refine tk_ 3 20 z43_7 HT_.out HW_.out hHeld ?_
    refine tk_ 7 24 z43_8 HT_.out HW_.out hHeld ?_
    refine one_ (i := 8) (N := some 25) z43_9 rfl rfl (one_of HT_.out (by kernel_rfl)) (by decide) (fun K hK => ?_)
    refine go_ Tryd.func61 #[.agg #[.int .i64 ((rd_T54 l0 x5_1).f0), .int .i64 ((rd_T54 l0 x5_1).f1), .int .i64 ((rd_T54 l0 x5_1).f2), .int .i64 ((rd_T54 l0 x5_1).f3), .int .i64 ((rd_T54 l0 x5_1).f4)], .agg #[.int .i64 ((rd_T54 l1 x5_1).f0), .int .i64 ((rd_T54 l1 x5_1).f1), .int .i64 ((rd_T54 l1 x5_1).f2), .int .i64 ((rd_T54 l1 x5_1).f3), .int .i64 ((rd_T54 l1 x5_1).f4)]] ?_
    with_reducible refine (laws_eqArc.calls ((rd_T54 l0 x5_1).f0) ((rd_T54 l0 x5_1).f1) ((rd_T54 l0 x5_1).f2) ((rd_T54 l0 x5_1).f3) ((rd_T54 l0 x5_1).f4) ((rd_T54 l1 x5_1).f0) ((rd_T54 l1 x5_1).f1) ((rd_T54 l1 x5_1).f2) ((rd_T54 l1 x5_1).f3) ((rd_T54 l1 x5_1).f4) true _ A7.out).mono ?_
    rintro e w10 ⟨rfl, hb⟩
    refine ⟨_, rfl, ?_⟩
    replace HB := kB_ HB hb
    (try clear hb)
    (try clear hb2)
    (try clear hk)
    (try clear hi)
    refine hK.out _ _ ⟨((HB.out.cell (World.block_lt_of_cell? w _ hw372_0)).trans hw372_0), ((HB.out.cell (World.block_lt_of_cell? w _ hw372_1)).trans hw372_1), ((HB.out.cell (World.block_lt_of_cell? w _ hw372_2)).trans hw372_2), ((HB.out.cell (World.block_lt_of_cell? w _ hw372_3)).trans hw372_3), ((HB.out.cell (World.block_lt_of_cell? w _ hw372_4)).trans hw372_4), ((HB.out.cell (World.block_lt_of_cell? w _ hw373_0)).trans hw373_0), ((HB.out.cell (World.block_lt_of_cell? w _ hw373_1)).trans hw373_1), ((HB.out.cell (World.block_lt_of_cell? w _ hw373_2)).trans hw373_2), ((HB.out.cell (World.block_lt_of_cell? w _ hw373_3)).trans hw373_3), ((HB.out.cell (World.block_lt_of_cell? w _ hw373_4)).trans hw373_4)⟩ (fun hHeld => ?_)
    clear hK K
    refine nm1_ (some 25) ?_
    refine pu_ 9 26 z43_10 HT_.out ?_
    refine done_ (done_of HT_.out (by kernel_rfl)) ?_
    try go_wp2
    go_roundg k1
    case measure => have := HK1.out; omega
    case rel => exact ⟨(wrap64 (x5_1 + 1)), ns_, H', ⟨by have := HK1.out; omega⟩, ⟨ne_ HB.out⟩⟩
end Go.Proofs.YtppjelkljihdoaaDoor.Print
