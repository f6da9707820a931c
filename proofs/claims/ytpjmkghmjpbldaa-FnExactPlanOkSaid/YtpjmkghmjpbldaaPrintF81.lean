-- Made by this session's own program (wip/patch_print.py, over the kit's print). Lean checks it.
import Derived.Test.YtpjmkghmjpbldaaPrint0
import Derived.Test.YtpjmkghmjpbldaaPrintF103
namespace Go.Proofs.Ytpjmkghmjpbldaa.Print
open Go.RowKit Go.Proofs.YtpjmkghmjpbldaaW.PrintWords Go.Proofs.YtpjmkghmjpbldaaW.PrintLast Go.Proofs.YtpjmkghmjpbldaaW.PrintMore Go.Proofs.YtpjmkghmjpbldaaX
attribute [local go_sem] max2_int min2_int max_two min_two max_three min_three max_four min_four   -- for this text's walks alone
set_option linter.unusedVariables false
set_option linter.unusedSimpArgs false

abbrev z81_0 : Array Bool := #[false, false, false, false, false, false, false, false, false, false]
abbrev z81_1 : Array Bool := #[true, false, false, false, false, false, false, false, false, false]
abbrev z81_2 : Array Bool := #[true, true, false, false, false, false, false, false, false, false]
abbrev z81_3 : Array Bool := #[true, true, true, false, false, false, false, false, false, false]
abbrev z81_4 : Array Bool := #[true, true, true, false, true, false, false, false, false, false]
abbrev z81_5 : Array Bool := #[true, true, true, false, true, true, false, false, false, false]
abbrev z81_6 : Array Bool := #[true, true, true, false, true, true, true, false, false, false]
abbrev z81_7 : Array Bool := #[true, true, true, true, true, true, true, false, false, false]
abbrev z81_8 : Array Bool := #[true, true, true, true, true, true, true, true, false, false]
abbrev z81_9 : Array Bool := #[true, true, true, true, true, true, true, true, true, false]
abbrev z81_10 : Array Bool := #[true, true, true, true, true, true, true, true, true, true]
/-! ### laws_eqConnS: function 81 -/
def laws_eqConnS.l0 : Nat → List (S89) → List (S89) → Int → Option (Bool)
  | 0, _, _, _ => none
  | k + 1, x0, x1, x5 => if x5 < (x0.length : Int) then (if 0 ≤ x5 then (if x5 < (x1.length : Int) then ((laws_eqConn.f ((rd_T89 x0 x5).f0) ((rd_T89 x0 x5).f1) ((rd_T89 x0 x5).f2) ((rd_T89 x0 x5).f3) ((rd_T89 x0 x5).f4) ((rd_T89 x1 x5).f0) ((rd_T89 x1 x5).f1) ((rd_T89 x1 x5).f2) ((rd_T89 x1 x5).f3) ((rd_T89 x1 x5).f4)).bind fun t535 => (if t535 = true then (laws_eqConnS.l0 k x0 x1 (wrap64 (x5 + 1))) else (some false))) else (none)) else (none)) else (some true)
def laws_eqConnS.f (k : Nat) (l0 : List (S89)) (l1 : List (S89)) : Option (Bool) := if (l0.length : Int) = (l1.length : Int) then (laws_eqConnS.l0 k l0 l1 0) else (some false)
theorem laws_eqConnS.mono_l : ∀ k, (∀ y0 y1 y2, LeO (laws_eqConnS.l0 k y0 y1 y2) (laws_eqConnS.l0 (k + 1) y0 y1 y2))
  | 0 => fun _ _ _ r h => by simp [laws_eqConnS.l0] at h
  | k + 1 => by
    have ih0 := laws_eqConnS.mono_l k
    · intro y0 y1 y2
      unfold laws_eqConnS.l0
      repeat' first
      | (with_reducible exact ih0 _ _ _)
      | (with_reducible exact LeO.refl _)
      | (with_reducible exact LeO.none _)
      | (with_reducible refine LeO.ite ?_ ?_)
      | (with_reducible refine LeO.bind ?_ (fun _ => ?_))
      | exact ih0 _ _ _
      | exact LeO.none _
      | refine LeO.ite ?_ ?_
      | refine LeO.bind ?_ (fun _ => ?_)
theorem laws_eqConnS.mono : ∀ a0 a1 k, LeO (laws_eqConnS.f k a0 a1) (laws_eqConnS.f (k + 1) a0 a1) := by
  intro a0 a1 k
  have ih0 := laws_eqConnS.mono_l k
  unfold laws_eqConnS.f
  repeat' first
      | (with_reducible exact ih0 _ _ _)
      | (with_reducible exact LeO.refl _)
      | (with_reducible exact LeO.none _)
      | (with_reducible refine LeO.ite ?_ ?_)
      | (with_reducible refine LeO.bind ?_ (fun _ => ?_))
      | exact ih0 _ _ _
      | exact LeO.none _
      | refine LeO.ite ?_ ?_
      | refine LeO.bind ?_ (fun _ => ?_)
def laws_eqConnS.T6 : Bool × List (List Nat × List Nat) := (true, [([], []), ([], []), ([0, 1], [0, 1]), ([2], [2]), ([], []), ([], []), ([4, 5], [4, 5]), ([6], [6]), ([3, 7], [3, 7]), ([8], [8])])
def laws_eqConnS.B6 : List Nat := [0, 0, 3, 7, 0, 0, 48, 112, 255, 511]
theorem laws_eqConnS.tab6 : rtab .any (opsOf Try.f81 6) = laws_eqConnS.T6 := by kernel_rfl
theorem laws_eqConnS.bits6 : waitsOk laws_eqConnS.T6.2 laws_eqConnS.B6 = true := by kernel_rfl
set_option maxHeartbeats 8000000 in
set_option maxRecDepth 100000 in
theorem laws_eqConnS.calls (k : Nat) (A0 : Option Addr) (c0 : Nat) (l0 : List (S89)) (A1 : Option Addr) (c1 : Nat) (l1 : List (S89)) (r : Bool) (w : World) (hr0 : Kd.C k89 w A0 l0.length l0) (hc0 : l0.length ≤ c0) (hr1 : Kd.C k89 w A1 l1.length l1) (hc1 : l1.length ≤ c1) (h : laws_eqConnS.f k l0 l1 = some r) :
    Calls Try.prog 81 #[.slice A0 l0.length c0, .slice A1 l1.length c1] w fun e w' => e = .returned (.bool r) ∧ Below w.heap.size w w' := by
  have hu89 := Try.underlying89
  have HR0 := Aside0.mk hr0
  have HC0 := Aside0.mk hc0
  clear hr0 hc0
  have HR1 := Aside0.mk hr1
  have HC1 := Aside0.mk hc1
  clear hr1 hc1
  have HB := Aside0.mk (Below.refl w.heap.size w)
  have H : (if (l0.length : Int) = (l1.length : Int) then (laws_eqConnS.l0 k l0 l1 0) else (some false)) = some r := h
  clear h
  by_cases c3 : (l0.length : Int) = (l1.length : Int)
  ·rw [if_pos c3] at H
   have c3b0 : ((l0.length : Int) == (l1.length : Int)) = true := beq_iff_eq.mpr c3
   have c3b1 : ((l0.length : Int) != (l1.length : Int)) = false := bne_eq_false_iff_eq.mpr c3
   have c3b2 : (l0.length == l1.length) = true := by first | simpa using c3 | (simp at c3 ⊢; omega)
   clear c3
   have H' := Aside0.mk H
   clear H
   go_enter Try.func81, Try.ntmps81
   go_wp2
   go_loopg [5] k (fun kq v5 w' => ∃ (x5_1 : Int), v5 = .int .i64 x5_1 ∧ Aside0 (laws_eqConnS.l0 kq l0 l1 x5_1 = some r) ∧ Aside0 (kq ≤ k) ∧ Aside0 (Below w.heap.size w w'))
   case atStart => exact ⟨(0), ns_, H', ⟨Nat.le_refl _⟩, ⟨by repeat (first | (with_reducible first | exact HB.out | apply below_alloc | apply pw_below_drewN | apply below_drew1) | exact HB.out)⟩⟩
   case round =>
    clear H'
    try clear c1
    try clear p2
    try clear c3
    try clear c3b0
    try clear c3b1
    try clear c3b2
    obtain ⟨x5_1, rfl, HA, HK1, HB⟩ := hrel
    cases gk with
    | zero => exact absurd HA.out (by simp [laws_eqConnS.l0])
    | succ k1 =>
     have H := HA.out
     clear HA
     simp only [laws_eqConnS.l0] at H
     by_cases c4 : x5_1 < (l0.length : Int)
     ·rw [if_pos c4] at H
      have c4b0 : decide (x5_1 < (l0.length : Int)) = true := decide_eq_true c4
      clear c4
      by_cases c5 : 0 ≤ x5_1
      ·rw [if_pos c5] at H
       have c5b0 : decide (0 ≤ x5_1) = true := decide_eq_true c5
       clear c5
       by_cases c6 : x5_1 < (l1.length : Int)
       ·rw [if_pos c6] at H
        have c6b0 : decide (x5_1 < (l1.length : Int)) = true := decide_eq_true c6
        clear c6
        replace H := Option.bind_eq_some_iff.mp H
        obtain ⟨t535, A70, H⟩ := H
        replace H : (if t535 = true then (laws_eqConnS.l0 k1 l0 l1 (wrap64 (x5_1 + 1))) else (some false)) = some r := H
        have A7 := Aside0.mk A70
        clear A70
        by_cases c8 : t535 = true
        ·subst c8
         have H1 : (laws_eqConnS.l0 k1 l0 l1 (wrap64 (x5_1 + 1))) = some r := by rw [if_pos rfl] at H; exact H
         clear H
         have H := H1
         clear H1
         have H' := Aside0.mk H
         clear H
         try go_wp2
         have n0_ := Aside0.mk (below_drew1 HB.out)
         clear HB
         have HB := n0_
         clear n0_
         have p533 : 0 ≤ (x5_1 : Int) := of_decide_eq_true nx_
         have q533 : x5_1 < (l0.length : Int) := of_decide_eq_true nx_
         obtain ⟨ad533, e533, hx533_0, hx533_1, hx533_2, hx533_3, hx533_4⟩ := at_T89 HR0.out x5_1 p533 q533
         have hw533_4 := hx533_4
         have hw533_3 := hx533_3
         have hw533_2 := hx533_2
         have hw533_1 := hx533_1
         have hw533_0 := hx533_0
         cases e533
         replace hx533_0 := (HB.out.cell (World.block_lt_of_cell? w _ hx533_0)).trans hx533_0
         replace hx533_1 := (HB.out.cell (World.block_lt_of_cell? w _ hx533_1)).trans hx533_1
         replace hx533_2 := (HB.out.cell (World.block_lt_of_cell? w _ hx533_2)).trans hx533_2
         replace hx533_3 := (HB.out.cell (World.block_lt_of_cell? w _ hx533_3)).trans hx533_3
         replace hx533_4 := (HB.out.cell (World.block_lt_of_cell? w _ hx533_4)).trans hx533_4
         replace p533 := eq_true p533
         replace q533 := eq_true q533
         have p534 : 0 ≤ (x5_1 : Int) := of_decide_eq_true nx_
         have q534 : x5_1 < (l1.length : Int) := of_decide_eq_true nx_
         obtain ⟨ad534, e534, hx534_0, hx534_1, hx534_2, hx534_3, hx534_4⟩ := at_T89 HR1.out x5_1 p534 q534
         have hw534_4 := hx534_4
         have hw534_3 := hx534_3
         have hw534_2 := hx534_2
         have hw534_1 := hx534_1
         have hw534_0 := hx534_0
         cases e534
         replace hx534_0 := (HB.out.cell (World.block_lt_of_cell? w _ hx534_0)).trans hx534_0
         replace hx534_1 := (HB.out.cell (World.block_lt_of_cell? w _ hx534_1)).trans hx534_1
         replace hx534_2 := (HB.out.cell (World.block_lt_of_cell? w _ hx534_2)).trans hx534_2
         replace hx534_3 := (HB.out.cell (World.block_lt_of_cell? w _ hx534_3)).trans hx534_3
         replace hx534_4 := (HB.out.cell (World.block_lt_of_cell? w _ hx534_4)).trans hx534_4
         replace p534 := eq_true p534
         replace q534 := eq_true q534
         refine start_ (n := 10) (S := fun w' => w'.cell? (ad533.add ((x5_1).toNat * 5)) = some (.int .i64 ((rd_T89 l0 x5_1).f0)) ∧ w'.cell? ⟨(ad533.add ((x5_1).toNat * 5)).block, (ad533.add ((x5_1).toNat * 5)).off + 1, none⟩ = some (.int .i64 ((rd_T89 l0 x5_1).f1)) ∧ w'.cell? ⟨(ad533.add ((x5_1).toNat * 5)).block, (ad533.add ((x5_1).toNat * 5)).off + 2, none⟩ = some (.int .i64 ((rd_T89 l0 x5_1).f2)) ∧ w'.cell? ⟨(ad533.add ((x5_1).toNat * 5)).block, (ad533.add ((x5_1).toNat * 5)).off + 3, none⟩ = some (.int .i64 ((rd_T89 l0 x5_1).f3)) ∧ w'.cell? ⟨(ad533.add ((x5_1).toNat * 5)).block, (ad533.add ((x5_1).toNat * 5)).off + 4, none⟩ = some (.int .i64 ((rd_T89 l0 x5_1).f4)) ∧ w'.cell? (ad534.add ((x5_1).toNat * 5)) = some (.int .i64 ((rd_T89 l1 x5_1).f0)) ∧ w'.cell? ⟨(ad534.add ((x5_1).toNat * 5)).block, (ad534.add ((x5_1).toNat * 5)).off + 1, none⟩ = some (.int .i64 ((rd_T89 l1 x5_1).f1)) ∧ w'.cell? ⟨(ad534.add ((x5_1).toNat * 5)).block, (ad534.add ((x5_1).toNat * 5)).off + 2, none⟩ = some (.int .i64 ((rd_T89 l1 x5_1).f2)) ∧ w'.cell? ⟨(ad534.add ((x5_1).toNat * 5)).block, (ad534.add ((x5_1).toNat * 5)).off + 3, none⟩ = some (.int .i64 ((rd_T89 l1 x5_1).f3)) ∧ w'.cell? ⟨(ad534.add ((x5_1).toNat * 5)).block, (ad534.add ((x5_1).toNat * 5)).off + 4, none⟩ = some (.int .i64 ((rd_T89 l1 x5_1).f4))) (ds := []) z81_0 (by kernel_rfl) rfl rfl ⟨((HB.out.cell (World.block_lt_of_cell? w _ hw533_0)).trans hw533_0), ((HB.out.cell (World.block_lt_of_cell? w _ hw533_1)).trans hw533_1), ((HB.out.cell (World.block_lt_of_cell? w _ hw533_2)).trans hw533_2), ((HB.out.cell (World.block_lt_of_cell? w _ hw533_3)).trans hw533_3), ((HB.out.cell (World.block_lt_of_cell? w _ hw533_4)).trans hw533_4), ((HB.out.cell (World.block_lt_of_cell? w _ hw534_0)).trans hw534_0), ((HB.out.cell (World.block_lt_of_cell? w _ hw534_1)).trans hw534_1), ((HB.out.cell (World.block_lt_of_cell? w _ hw534_2)).trans hw534_2), ((HB.out.cell (World.block_lt_of_cell? w _ hw534_3)).trans hw534_3), ((HB.out.cell (World.block_lt_of_cell? w _ hw534_4)).trans hw534_4)⟩ (fun hHeld => ?_); refine with_tabW laws_eqConnS.tab6 laws_eqConnS.bits6 (fun HT_ HW_ => ?_)
         generalize wr.drew = w9 at HB hx533_0 hx533_1 hx533_2 hx533_3 hx533_4 hx534_0 hx534_1 hx534_2 hx534_3 hx534_4 hHeld ⊢
         refine pu_ 0 17 z81_1 HT_.out ?_
         refine pu_ 1 18 z81_2 HT_.out ?_
         refine pu_ 2 19 z81_3 HT_.out ?_
         refine pu_ 4 21 z81_4 HT_.out ?_
         refine pu_ 5 22 z81_5 HT_.out ?_
         refine pu_ 6 23 z81_6 HT_.out ?_
         refine tk_ 3 20 z81_7 HT_.out HW_.out hHeld ?_
         refine tk_ 7 24 z81_8 HT_.out HW_.out hHeld ?_
         refine one_ (i := 8) (N := some 25) z81_9 rfl rfl (one_of HT_.out (by kernel_rfl)) (by decide) (fun K hK => ?_)
         refine goes_ Try.func103 (by kernel_rfl) rfl #[.agg #[.int .i64 ((rd_T89 l0 x5_1).f0), .int .i64 ((rd_T89 l0 x5_1).f1), .int .i64 ((rd_T89 l0 x5_1).f2), .int .i64 ((rd_T89 l0 x5_1).f3), .int .i64 ((rd_T89 l0 x5_1).f4)], .agg #[.int .i64 ((rd_T89 l1 x5_1).f0), .int .i64 ((rd_T89 l1 x5_1).f1), .int .i64 ((rd_T89 l1 x5_1).f2), .int .i64 ((rd_T89 l1 x5_1).f3), .int .i64 ((rd_T89 l1 x5_1).f4)]] (by rfl) rfl rfl na_ ?_
         with_reducible refine (laws_eqConn.calls ((rd_T89 l0 x5_1).f0) ((rd_T89 l0 x5_1).f1) ((rd_T89 l0 x5_1).f2) ((rd_T89 l0 x5_1).f3) ((rd_T89 l0 x5_1).f4) ((rd_T89 l1 x5_1).f0) ((rd_T89 l1 x5_1).f1) ((rd_T89 l1 x5_1).f2) ((rd_T89 l1 x5_1).f3) ((rd_T89 l1 x5_1).f4) true _ A7.out).mono ?_
         rintro e w10 ⟨rfl, hb⟩
         refine ⟨_, rfl, ?_⟩
         have n0_ := Aside0.mk (below_step (ne_ HB.out) hb)
         clear HB
         have HB := n0_
         clear n0_
         (try clear hb)
         (try clear hb2)
         (try clear hk)
         (try clear hi)
         refine hK.out _ _ ⟨((HB.out.cell (World.block_lt_of_cell? w _ hw533_0)).trans hw533_0), ((HB.out.cell (World.block_lt_of_cell? w _ hw533_1)).trans hw533_1), ((HB.out.cell (World.block_lt_of_cell? w _ hw533_2)).trans hw533_2), ((HB.out.cell (World.block_lt_of_cell? w _ hw533_3)).trans hw533_3), ((HB.out.cell (World.block_lt_of_cell? w _ hw533_4)).trans hw533_4), ((HB.out.cell (World.block_lt_of_cell? w _ hw534_0)).trans hw534_0), ((HB.out.cell (World.block_lt_of_cell? w _ hw534_1)).trans hw534_1), ((HB.out.cell (World.block_lt_of_cell? w _ hw534_2)).trans hw534_2), ((HB.out.cell (World.block_lt_of_cell? w _ hw534_3)).trans hw534_3), ((HB.out.cell (World.block_lt_of_cell? w _ hw534_4)).trans hw534_4)⟩ (fun hHeld => ?_)
         clear hK K
         refine norm_ (a' := ?_) ?_ ?_
         rotate_left
         ·show Act.put _ (some 25) _ = _
          simp only [Act.put, List.setIfInBounds_toArray, List.set_cons_zero, List.set_cons_succ, i64_w, i32_w]
          rfl
         refine pu_ 9 26 z81_10 HT_.out ?_
         refine done_ (done_of HT_.out (by kernel_rfl)) ?_
         try go_wp2
         go_roundg k1
         case measure => have := HK1.out; omega
         case rel => exact ⟨(wrap64 (x5_1 + 1)), ns_, H', ⟨by have := HK1.out; omega⟩, ⟨by repeat (first | (with_reducible first | exact HB.out | apply below_alloc | apply pw_below_drewN | apply below_drew1) | exact HB.out)⟩⟩
        ·replace c8 := Bool.eq_false_iff.mpr c8
         subst c8
         have H1 : (some false) = some r := by rw [if_neg (show ¬ (false = true) by decide)] at H; exact H
         clear H
         have H := H1
         clear H1
         obtain rfl := Option.some.inj H
         try go_wp2
         have n0_ := Aside0.mk (below_drew1 HB.out)
         clear HB
         have HB := n0_
         clear n0_
         have p533 : 0 ≤ (x5_1 : Int) := of_decide_eq_true nx_
         have q533 : x5_1 < (l0.length : Int) := of_decide_eq_true nx_
         obtain ⟨ad533, e533, hx533_0, hx533_1, hx533_2, hx533_3, hx533_4⟩ := at_T89 HR0.out x5_1 p533 q533
         have hw533_4 := hx533_4
         have hw533_3 := hx533_3
         have hw533_2 := hx533_2
         have hw533_1 := hx533_1
         have hw533_0 := hx533_0
         cases e533
         replace hx533_0 := (HB.out.cell (World.block_lt_of_cell? w _ hx533_0)).trans hx533_0
         replace hx533_1 := (HB.out.cell (World.block_lt_of_cell? w _ hx533_1)).trans hx533_1
         replace hx533_2 := (HB.out.cell (World.block_lt_of_cell? w _ hx533_2)).trans hx533_2
         replace hx533_3 := (HB.out.cell (World.block_lt_of_cell? w _ hx533_3)).trans hx533_3
         replace hx533_4 := (HB.out.cell (World.block_lt_of_cell? w _ hx533_4)).trans hx533_4
         replace p533 := eq_true p533
         replace q533 := eq_true q533
         have p534 : 0 ≤ (x5_1 : Int) := of_decide_eq_true nx_
         have q534 : x5_1 < (l1.length : Int) := of_decide_eq_true nx_
         obtain ⟨ad534, e534, hx534_0, hx534_1, hx534_2, hx534_3, hx534_4⟩ := at_T89 HR1.out x5_1 p534 q534
         have hw534_4 := hx534_4
         have hw534_3 := hx534_3
         have hw534_2 := hx534_2
         have hw534_1 := hx534_1
         have hw534_0 := hx534_0
         cases e534
         replace hx534_0 := (HB.out.cell (World.block_lt_of_cell? w _ hx534_0)).trans hx534_0
         replace hx534_1 := (HB.out.cell (World.block_lt_of_cell? w _ hx534_1)).trans hx534_1
         replace hx534_2 := (HB.out.cell (World.block_lt_of_cell? w _ hx534_2)).trans hx534_2
         replace hx534_3 := (HB.out.cell (World.block_lt_of_cell? w _ hx534_3)).trans hx534_3
         replace hx534_4 := (HB.out.cell (World.block_lt_of_cell? w _ hx534_4)).trans hx534_4
         replace p534 := eq_true p534
         replace q534 := eq_true q534
         refine start_ (n := 10) (S := fun w' => w'.cell? (ad533.add ((x5_1).toNat * 5)) = some (.int .i64 ((rd_T89 l0 x5_1).f0)) ∧ w'.cell? ⟨(ad533.add ((x5_1).toNat * 5)).block, (ad533.add ((x5_1).toNat * 5)).off + 1, none⟩ = some (.int .i64 ((rd_T89 l0 x5_1).f1)) ∧ w'.cell? ⟨(ad533.add ((x5_1).toNat * 5)).block, (ad533.add ((x5_1).toNat * 5)).off + 2, none⟩ = some (.int .i64 ((rd_T89 l0 x5_1).f2)) ∧ w'.cell? ⟨(ad533.add ((x5_1).toNat * 5)).block, (ad533.add ((x5_1).toNat * 5)).off + 3, none⟩ = some (.int .i64 ((rd_T89 l0 x5_1).f3)) ∧ w'.cell? ⟨(ad533.add ((x5_1).toNat * 5)).block, (ad533.add ((x5_1).toNat * 5)).off + 4, none⟩ = some (.int .i64 ((rd_T89 l0 x5_1).f4)) ∧ w'.cell? (ad534.add ((x5_1).toNat * 5)) = some (.int .i64 ((rd_T89 l1 x5_1).f0)) ∧ w'.cell? ⟨(ad534.add ((x5_1).toNat * 5)).block, (ad534.add ((x5_1).toNat * 5)).off + 1, none⟩ = some (.int .i64 ((rd_T89 l1 x5_1).f1)) ∧ w'.cell? ⟨(ad534.add ((x5_1).toNat * 5)).block, (ad534.add ((x5_1).toNat * 5)).off + 2, none⟩ = some (.int .i64 ((rd_T89 l1 x5_1).f2)) ∧ w'.cell? ⟨(ad534.add ((x5_1).toNat * 5)).block, (ad534.add ((x5_1).toNat * 5)).off + 3, none⟩ = some (.int .i64 ((rd_T89 l1 x5_1).f3)) ∧ w'.cell? ⟨(ad534.add ((x5_1).toNat * 5)).block, (ad534.add ((x5_1).toNat * 5)).off + 4, none⟩ = some (.int .i64 ((rd_T89 l1 x5_1).f4))) (ds := []) z81_0 (by kernel_rfl) rfl rfl ⟨((HB.out.cell (World.block_lt_of_cell? w _ hw533_0)).trans hw533_0), ((HB.out.cell (World.block_lt_of_cell? w _ hw533_1)).trans hw533_1), ((HB.out.cell (World.block_lt_of_cell? w _ hw533_2)).trans hw533_2), ((HB.out.cell (World.block_lt_of_cell? w _ hw533_3)).trans hw533_3), ((HB.out.cell (World.block_lt_of_cell? w _ hw533_4)).trans hw533_4), ((HB.out.cell (World.block_lt_of_cell? w _ hw534_0)).trans hw534_0), ((HB.out.cell (World.block_lt_of_cell? w _ hw534_1)).trans hw534_1), ((HB.out.cell (World.block_lt_of_cell? w _ hw534_2)).trans hw534_2), ((HB.out.cell (World.block_lt_of_cell? w _ hw534_3)).trans hw534_3), ((HB.out.cell (World.block_lt_of_cell? w _ hw534_4)).trans hw534_4)⟩ (fun hHeld => ?_); refine with_tabW laws_eqConnS.tab6 laws_eqConnS.bits6 (fun HT_ HW_ => ?_)
         generalize wr.drew = w11 at HB hx533_0 hx533_1 hx533_2 hx533_3 hx533_4 hx534_0 hx534_1 hx534_2 hx534_3 hx534_4 hHeld ⊢
         refine pu_ 0 17 z81_1 HT_.out ?_
         refine pu_ 1 18 z81_2 HT_.out ?_
         refine pu_ 2 19 z81_3 HT_.out ?_
         refine pu_ 4 21 z81_4 HT_.out ?_
         refine pu_ 5 22 z81_5 HT_.out ?_
         refine pu_ 6 23 z81_6 HT_.out ?_
         refine tk_ 3 20 z81_7 HT_.out HW_.out hHeld ?_
         refine tk_ 7 24 z81_8 HT_.out HW_.out hHeld ?_
         refine one_ (i := 8) (N := some 25) z81_9 rfl rfl (one_of HT_.out (by kernel_rfl)) (by decide) (fun K hK => ?_)
         refine goes_ Try.func103 (by kernel_rfl) rfl #[.agg #[.int .i64 ((rd_T89 l0 x5_1).f0), .int .i64 ((rd_T89 l0 x5_1).f1), .int .i64 ((rd_T89 l0 x5_1).f2), .int .i64 ((rd_T89 l0 x5_1).f3), .int .i64 ((rd_T89 l0 x5_1).f4)], .agg #[.int .i64 ((rd_T89 l1 x5_1).f0), .int .i64 ((rd_T89 l1 x5_1).f1), .int .i64 ((rd_T89 l1 x5_1).f2), .int .i64 ((rd_T89 l1 x5_1).f3), .int .i64 ((rd_T89 l1 x5_1).f4)]] (by rfl) rfl rfl na_ ?_
         with_reducible refine (laws_eqConn.calls ((rd_T89 l0 x5_1).f0) ((rd_T89 l0 x5_1).f1) ((rd_T89 l0 x5_1).f2) ((rd_T89 l0 x5_1).f3) ((rd_T89 l0 x5_1).f4) ((rd_T89 l1 x5_1).f0) ((rd_T89 l1 x5_1).f1) ((rd_T89 l1 x5_1).f2) ((rd_T89 l1 x5_1).f3) ((rd_T89 l1 x5_1).f4) false _ A7.out).mono ?_
         rintro e w12 ⟨rfl, hb⟩
         refine ⟨_, rfl, ?_⟩
         have n0_ := Aside0.mk (below_step (ne_ HB.out) hb)
         clear HB
         have HB := n0_
         clear n0_
         (try clear hb)
         (try clear hb2)
         (try clear hk)
         (try clear hi)
         refine hK.out _ _ ⟨((HB.out.cell (World.block_lt_of_cell? w _ hw533_0)).trans hw533_0), ((HB.out.cell (World.block_lt_of_cell? w _ hw533_1)).trans hw533_1), ((HB.out.cell (World.block_lt_of_cell? w _ hw533_2)).trans hw533_2), ((HB.out.cell (World.block_lt_of_cell? w _ hw533_3)).trans hw533_3), ((HB.out.cell (World.block_lt_of_cell? w _ hw533_4)).trans hw533_4), ((HB.out.cell (World.block_lt_of_cell? w _ hw534_0)).trans hw534_0), ((HB.out.cell (World.block_lt_of_cell? w _ hw534_1)).trans hw534_1), ((HB.out.cell (World.block_lt_of_cell? w _ hw534_2)).trans hw534_2), ((HB.out.cell (World.block_lt_of_cell? w _ hw534_3)).trans hw534_3), ((HB.out.cell (World.block_lt_of_cell? w _ hw534_4)).trans hw534_4)⟩ (fun hHeld => ?_)
         clear hK K
         refine norm_ (a' := ?_) ?_ ?_
         rotate_left
         ·show Act.put _ (some 25) _ = _
          simp only [Act.put, List.setIfInBounds_toArray, List.set_cons_zero, List.set_cons_succ, i64_w, i32_w]
          rfl
         refine pu_ 9 26 z81_10 HT_.out ?_
         refine done_ (done_of HT_.out (by kernel_rfl)) ?_
         try go_wp2
         go_ret
         exact ⟨by first | rfl | (simp [errW_none, errW_some] <;> rfl) | (simp [*, errW_none, errW_some] <;> rfl), by repeat (first | (with_reducible first | exact HB.out | apply below_alloc | apply pw_below_drewN | apply below_drew1) | exact HB.out)⟩
       ·rw [if_neg c6] at H
        exact absurd H (by simp)
      ·rw [if_neg c5] at H
       exact absurd H (by simp)
     ·rw [if_neg c4] at H
      have c4b0 : decide (x5_1 < (l0.length : Int)) = false := decide_eq_false c4
      clear c4
      obtain rfl := Option.some.inj H
      go_wp2
      go_ret
      exact ⟨by first | rfl | (simp [errW_none, errW_some] <;> rfl) | (simp [*, errW_none, errW_some] <;> rfl), by repeat (first | (with_reducible first | exact HB.out | apply below_alloc | apply pw_below_drewN | apply below_drew1) | exact HB.out)⟩
  ·rw [if_neg c3] at H
   have c3b0 : ((l0.length : Int) == (l1.length : Int)) = false := beq_eq_false_iff_ne.mpr c3
   have c3b1 : ((l0.length : Int) != (l1.length : Int)) = true := bne_iff_ne.mpr c3
   have c3b2 : (l0.length == l1.length) = false := by first | simpa using c3 | (simp at c3 ⊢; omega)
   obtain rfl := Option.some.inj H
   go_enter Try.func81, Try.ntmps81
   go_wp2
   go_ret
   exact ⟨by first | rfl | (simp [errW_none, errW_some] <;> rfl) | (simp [*, errW_none, errW_some] <;> rfl), by repeat (first | (with_reducible first | exact HB.out | apply below_alloc | apply pw_below_drewN | apply below_drew1) | exact HB.out)⟩

end Go.Proofs.Ytpjmkghmjpbldaa.Print
