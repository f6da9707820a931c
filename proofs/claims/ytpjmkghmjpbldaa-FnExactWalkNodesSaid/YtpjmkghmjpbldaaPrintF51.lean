-- Made by this session's own program (wip/patch_print.py, over the kit's print). Lean checks it.
import Derived.Test.YtpjmkghmjpbldaaPrint0
import Derived.Test.YtpjmkghmjpbldaaPrintF60
import Derived.Test.YtpjmkghmjpbldaaPrintF83
import Derived.Test.YtpjmkghmjpbldaaPrintF87
namespace Go.Proofs.Ytpjmkghmjpbldaa.Print
open Go.RowKit Go.Proofs.YtpjmkghmjpbldaaW.PrintWords Go.Proofs.YtpjmkghmjpbldaaW.PrintLast Go.Proofs.YtpjmkghmjpbldaaW.PrintMore Go.Proofs.YtpjmkghmjpbldaaX
attribute [local go_sem] max2_int min2_int max_two min_two max_three min_three max_four min_four   -- for this text's walks alone
set_option linter.unusedVariables false
set_option linter.unusedSimpArgs false

/-! ### spec_WalkNodes: function 51 -/
def spec_WalkNodes.f (k : Nat) (a0_0 : Int) (l0_1 : List (S37)) (l1 : List Int) : Option (List Int) := (spec_l1Ok.f k a0_0 l0_1).bind fun t797 => (if t797 = true then ((spec_l2Ok.f k a0_0 l0_1 l1).bind fun t798 => (if t798 = true then (if (l1.length : Int) = 0 then (some ([] : List Int)) else (if 0 < (l1.length : Int) then (if 0 ≤ (rd l1 0) then (if (rd l1 0) < (l0_1.length : Int) then ((spec_l2Nodes.f k a0_0 l0_1 l1 ((rd_T37 l0_1 (rd l1 0)).f0)).bind fun t801 => (some t801)) else (none)) else (none)) else (none))) else (some ([] : List Int)))) else (some ([] : List Int)))
theorem spec_WalkNodes.mono : ∀ a0 a1 a2 k, LeO (spec_WalkNodes.f k a0 a1 a2) (spec_WalkNodes.f (k + 1) a0 a1 a2) := by
  intro a0 a1 a2 k
  unfold spec_WalkNodes.f
  repeat' first
      | (with_reducible exact spec_l1Ok.mono _ _ _)
      | (with_reducible exact spec_l2Nodes.mono _ _ _ _ _)
      | (with_reducible exact spec_l2Ok.mono _ _ _ _)
      | (with_reducible exact LeO.refl _)
      | (with_reducible exact LeO.none _)
      | (with_reducible refine LeO.ite ?_ ?_)
      | (with_reducible refine LeO.bind ?_ (fun _ => ?_))
      | exact spec_l1Ok.mono _ _ _
      | exact spec_l2Nodes.mono _ _ _ _ _
      | exact spec_l2Ok.mono _ _ _ _
      | exact LeO.none _
      | refine LeO.ite ?_ ?_
      | refine LeO.bind ?_ (fun _ => ?_)
def spec_WalkNodes.T3 : Bool × List (List Nat × List Nat) := (true, [([], []), ([], []), ([], []), ([2], [2]), ([], []), ([4], [4]), ([5], [5]), ([3, 6], [3, 6]), ([7], [7]), ([8], [8]), ([0, 1, 9], [0, 1, 9]), ([10, 10, 0, 1, 2, 3, 4, 5, 6, 7, 8, 9, 10], [10])])
def spec_WalkNodes.B3 : List Nat := [0, 0, 0, 4, 0, 16, 48, 124, 252, 508, 1023, 2047]
theorem spec_WalkNodes.tab3 : rtab .any (opsOf Try.f51 3) = spec_WalkNodes.T3 := by kernel_rfl
theorem spec_WalkNodes.bits3 : waitsOk spec_WalkNodes.T3.2 spec_WalkNodes.B3 = true := by kernel_rfl
set_option maxHeartbeats 8000000 in
set_option maxRecDepth 100000 in
theorem spec_WalkNodes.calls (k : Nat) (a0_0 : Int) (A0_1 : Option Addr) (c0_1 : Nat) (l0_1 : List (S37)) (A1 : Option Addr) (c1 : Nat) (l1 : List Int) (r : List Int) (w : World) (hr0_1 : Kd.C k37 w A0_1 l0_1.length l0_1) (hc0_1 : l0_1.length ≤ c0_1) (hr1 : Kd.C (Kd.int .i64) w A1 l1.length l1) (hc1 : l1.length ≤ c1) (h : spec_WalkNodes.f k a0_0 l0_1 l1 = some r) :
    Calls Try.prog 51 #[.agg #[.int .i64 a0_0, .slice A0_1 l0_1.length c0_1], .slice A1 l1.length c1] w fun e w' => ∃ v0_ : Value, e = .returned (v0_) ∧ Kd.R (Kd.int .i64) 3 w' w.heap.size (fun _ => True) v0_ r ∧ Below w.heap.size w w' := by
  have hu29 := Try.underlying29
  have HR0_1 := Aside0.mk hr0_1
  have HC0_1 := Aside0.mk hc0_1
  clear hr0_1 hc0_1
  have HR1 := Aside0.mk hr1
  have HC1 := Aside0.mk hc1
  clear hr1 hc1
  have HB := Aside0.mk (Below.refl w.heap.size w)
  have H : ((spec_l1Ok.f k a0_0 l0_1).bind fun t797 => (if t797 = true then ((spec_l2Ok.f k a0_0 l0_1 l1).bind fun t798 => (if t798 = true then (if (l1.length : Int) = 0 then (some ([] : List Int)) else (if 0 < (l1.length : Int) then (if 0 ≤ (rd l1 0) then (if (rd l1 0) < (l0_1.length : Int) then ((spec_l2Nodes.f k a0_0 l0_1 l1 ((rd_T37 l0_1 (rd l1 0)).f0)).bind fun t801 => (some t801)) else (none)) else (none)) else (none))) else (some ([] : List Int)))) else (some ([] : List Int)))) = some r := h
  clear h
  replace H := Option.bind_eq_some_iff.mp H
  obtain ⟨t797, A30, H⟩ := H
  replace H : (if t797 = true then ((spec_l2Ok.f k a0_0 l0_1 l1).bind fun t798 => (if t798 = true then (if (l1.length : Int) = 0 then (some ([] : List Int)) else (if 0 < (l1.length : Int) then (if 0 ≤ (rd l1 0) then (if (rd l1 0) < (l0_1.length : Int) then ((spec_l2Nodes.f k a0_0 l0_1 l1 ((rd_T37 l0_1 (rd l1 0)).f0)).bind fun t801 => (some t801)) else (none)) else (none)) else (none))) else (some ([] : List Int)))) else (some ([] : List Int))) = some r := H
  have A3 := Aside0.mk A30
  clear A30
  by_cases c4 : t797 = true
  ·subst c4
   have H1 : ((spec_l2Ok.f k a0_0 l0_1 l1).bind fun t798 => (if t798 = true then (if (l1.length : Int) = 0 then (some ([] : List Int)) else (if 0 < (l1.length : Int) then (if 0 ≤ (rd l1 0) then (if (rd l1 0) < (l0_1.length : Int) then ((spec_l2Nodes.f k a0_0 l0_1 l1 ((rd_T37 l0_1 (rd l1 0)).f0)).bind fun t801 => (some t801)) else (none)) else (none)) else (none))) else (some ([] : List Int)))) = some r := by rw [if_pos rfl] at H; exact H
   clear H
   have H := H1
   clear H1
   replace H := Option.bind_eq_some_iff.mp H
   obtain ⟨t798, A50, H⟩ := H
   replace H : (if t798 = true then (if (l1.length : Int) = 0 then (some ([] : List Int)) else (if 0 < (l1.length : Int) then (if 0 ≤ (rd l1 0) then (if (rd l1 0) < (l0_1.length : Int) then ((spec_l2Nodes.f k a0_0 l0_1 l1 ((rd_T37 l0_1 (rd l1 0)).f0)).bind fun t801 => (some t801)) else (none)) else (none)) else (none))) else (some ([] : List Int))) = some r := H
   have A5 := Aside0.mk A50
   clear A50
   by_cases c6 : t798 = true
   ·subst c6
    have H1 : (if (l1.length : Int) = 0 then (some ([] : List Int)) else (if 0 < (l1.length : Int) then (if 0 ≤ (rd l1 0) then (if (rd l1 0) < (l0_1.length : Int) then ((spec_l2Nodes.f k a0_0 l0_1 l1 ((rd_T37 l0_1 (rd l1 0)).f0)).bind fun t801 => (some t801)) else (none)) else (none)) else (none))) = some r := by rw [if_pos rfl] at H; exact H
    clear H
    have H := H1
    clear H1
    by_cases c7 : (l1.length : Int) = 0
    ·rw [if_pos c7] at H
     have c7b0 : ((l1.length : Int) == 0) = true := beq_iff_eq.mpr c7
     have c7b1 : ((l1.length : Int) != 0) = false := bne_eq_false_iff_eq.mpr c7
     clear c7
     obtain rfl := Option.some.inj H
     go_enter Try.func51, Try.ntmps51
     go_wp2_with (first | ((with_reducible refine gate_dst (N := 2) rfl ?_); (try (refine gate_guard (by rfl) ?_; dsimp only)); refine box_event ?hg (N := 2) ?hd (cs := #[.int .i64 a0_0, .slice A0_1 l0_1.length c0_1]) (t := 29) ?hr ?_; (case hd => rfl); (case hg => rfl); (case hr => first | (go_simp; done) | (go_simp; rfl)); intro gb796 hg w8 hbox hb; have n0_ := Aside0.mk (below_step (ne_ HB.out) hb); have n1_ := Aside0.mk (hbox); have n2_ := Aside0.mk ((by rw [hg]; exact (below_size (ne_ HB.out)) : w.heap.size ≤ gb796)); have n3_ := Aside0.mk ((by rw [hg]; exact (below_size (ne_ HB.out)) : w.heap.size ≤ gb796)); clear HB; have HB := n0_; have BK796 := n1_; have GW796 := n2_; have GE796 := n3_; clear n0_ n1_ n2_ n3_; clear hb hbox hg; have hcz9_0 : w8.cell? ⟨gb796, 0, none⟩ = some (.int .i64 a0_0) := (blk_cell BK796.out 0).trans rfl; have hcz9_1 : w8.cell? ⟨gb796, 1, none⟩ = some (.slice A0_1 l0_1.length c0_1) := (blk_cell BK796.out 1).trans rfl; have hfz9_0 := blk_frozen BK796.out 0; have hfz9_1 := blk_frozen BK796.out 1) | ((with_reducible refine gate_callee (f := 60) rfl ?_); refine goesL_ (some 6) rfl rfl Try.func60 (by kernel_rfl) rfl #[.agg #[.int .i64 a0_0, .slice A0_1 l0_1.length c0_1]] rfl na_ ?_; (with_reducible refine (spec_l1Ok.calls k a0_0 _ _ l0_1 true _ ?side1 ?side2 A3.out).mono ?_); (case side1 => exact nc_ (Kd.C_below HR0_1.out HB.out)); (case side2 => exact HC0_1.out); rintro e w10 ⟨rfl, hb⟩; refine ⟨_, rfl, ?_⟩; have n0_ := Aside0.mk (blk_below (g := gb796) (o := .cells #[.int .i64 a0_0, .slice A0_1 l0_1.length c0_1] 29 (0, 0)) (nb_ BK796.out) hb); have n1_ := Aside0.mk (below_step (ne_ HB.out) hb); clear BK796; clear HB; have BK796 := n0_; have HB := n1_; clear n0_ n1_; (try clear hb); (try clear hb2); (try clear hk); (try clear hi); have hcz11_0 : w10.cell? ⟨gb796, 0, none⟩ = some (.int .i64 a0_0) := (blk_cell BK796.out 0).trans rfl; have hcz11_1 : w10.cell? ⟨gb796, 1, none⟩ = some (.slice A0_1 l0_1.length c0_1) := (blk_cell BK796.out 1).trans rfl; have hfz11_0 := blk_frozen BK796.out 0; have hfz11_1 := blk_frozen BK796.out 1) | (go_at_call 83; (with_reducible refine (spec_l2Ok.calls k a0_0 _ _ l0_1 _ _ l1 true _ ?side1 ?side2 ?side3 ?side4 A5.out).mono ?_); (case side1 => exact nc_ (Kd.C_below HR0_1.out HB.out)); (case side2 => exact HC0_1.out); (case side3 => exact nc_ (Kd.C_below HR1.out HB.out)); (case side4 => exact HC1.out); rintro e w12 ⟨rfl, hb⟩; have n0_ := Aside0.mk (blk_below (g := gb796) (o := .cells #[.int .i64 a0_0, .slice A0_1 l0_1.length c0_1] 29 (0, 0)) (nb_ BK796.out) hb); have n1_ := Aside0.mk (below_step (ne_ HB.out) hb); clear BK796; clear HB; have BK796 := n0_; have HB := n1_; clear n0_ n1_; (try clear hb); (try clear hb2); (try clear hk); (try clear hi)))
     go_ret
     exact ⟨_, by first | rfl | (simp [errW_none, errW_some] <;> rfl) | (simp [*, errW_none, errW_some] <;> rfl), by first | exact Kd.R_nil _ _ _ _ _ | exact Kd.N_nil _ _ _ _ _ | exact Kd.V_nil _ _ _ _ _ | exact Kd.Q_nil _ _ _ _ _ | exact Kd.S_nil _ _ _ _ _, by repeat (first | (with_reducible first | exact HB.out | apply below_alloc | apply pw_below_drewN | apply below_drew1 | refine below_set ?_ GE796.out) | exact HB.out)⟩
    ·rw [if_neg c7] at H
     have c7b0 : ((l1.length : Int) == 0) = false := beq_eq_false_iff_ne.mpr c7
     have c7b1 : ((l1.length : Int) != 0) = true := bne_iff_ne.mpr c7
     have c7b2 : ¬ (l1 = []) := fun h_ => c7 (by rw [h_]; rfl)
     by_cases c13 : 0 < (l1.length : Int)
     ·rw [if_pos c13] at H
      have c13b0 : decide (0 < (l1.length : Int)) = true := decide_eq_true c13
      have c13b1 : decide (0 < l1.length) = true := decide_eq_true (by omega)
      clear c13
      by_cases c14 : 0 ≤ (rd l1 0)
      ·rw [if_pos c14] at H
       have c14b0 : decide (0 ≤ (rd l1 0)) = true := decide_eq_true c14
       clear c14
       by_cases c15 : (rd l1 0) < (l0_1.length : Int)
       ·rw [if_pos c15] at H
        have c15b0 : decide ((rd l1 0) < (l0_1.length : Int)) = true := decide_eq_true c15
        clear c15
        replace H := Option.bind_eq_some_iff.mp H
        obtain ⟨t801, A160, H⟩ := H
        replace H : (some t801) = some r := H
        have A16 := Aside0.mk A160
        clear A160
        obtain rfl := Option.some.inj H
        go_enter Try.func51, Try.ntmps51
        try go_wp2_with (first | ((with_reducible refine gate_dst (N := 2) rfl ?_); (try (refine gate_guard (by rfl) ?_; dsimp only)); refine box_event ?hg (N := 2) ?hd (cs := #[.int .i64 a0_0, .slice A0_1 l0_1.length c0_1]) (t := 29) ?hr ?_; (case hd => rfl); (case hg => rfl); (case hr => first | (go_simp; done) | (go_simp; rfl)); intro gb796 hg w17 hbox hb; have n0_ := Aside0.mk (below_step (ne_ HB.out) hb); have n1_ := Aside0.mk (hbox); have n2_ := Aside0.mk ((by rw [hg]; exact (below_size (ne_ HB.out)) : w.heap.size ≤ gb796)); have n3_ := Aside0.mk ((by rw [hg]; exact (below_size (ne_ HB.out)) : w.heap.size ≤ gb796)); clear HB; have HB := n0_; have BK796 := n1_; have GW796 := n2_; have GE796 := n3_; clear n0_ n1_ n2_ n3_; clear hb hbox hg; have hcz18_0 : w17.cell? ⟨gb796, 0, none⟩ = some (.int .i64 a0_0) := (blk_cell BK796.out 0).trans rfl; have hcz18_1 : w17.cell? ⟨gb796, 1, none⟩ = some (.slice A0_1 l0_1.length c0_1) := (blk_cell BK796.out 1).trans rfl; have hfz18_0 := blk_frozen BK796.out 0; have hfz18_1 := blk_frozen BK796.out 1) | ((with_reducible refine gate_callee (f := 60) rfl ?_); refine goesL_ (some 6) rfl rfl Try.func60 (by kernel_rfl) rfl #[.agg #[.int .i64 a0_0, .slice A0_1 l0_1.length c0_1]] rfl na_ ?_; (with_reducible refine (spec_l1Ok.calls k a0_0 _ _ l0_1 true _ ?side1 ?side2 A3.out).mono ?_); (case side1 => exact nc_ (Kd.C_below HR0_1.out HB.out)); (case side2 => exact HC0_1.out); rintro e w19 ⟨rfl, hb⟩; refine ⟨_, rfl, ?_⟩; have n0_ := Aside0.mk (blk_below (g := gb796) (o := .cells #[.int .i64 a0_0, .slice A0_1 l0_1.length c0_1] 29 (0, 0)) (nb_ BK796.out) hb); have n1_ := Aside0.mk (below_step (ne_ HB.out) hb); clear BK796; clear HB; have BK796 := n0_; have HB := n1_; clear n0_ n1_; (try clear hb); (try clear hb2); (try clear hk); (try clear hi); have hcz20_0 : w19.cell? ⟨gb796, 0, none⟩ = some (.int .i64 a0_0) := (blk_cell BK796.out 0).trans rfl; have hcz20_1 : w19.cell? ⟨gb796, 1, none⟩ = some (.slice A0_1 l0_1.length c0_1) := (blk_cell BK796.out 1).trans rfl; have hfz20_0 := blk_frozen BK796.out 0; have hfz20_1 := blk_frozen BK796.out 1) | (go_at_call 83; (with_reducible refine (spec_l2Ok.calls k a0_0 _ _ l0_1 _ _ l1 true _ ?side1 ?side2 ?side3 ?side4 A5.out).mono ?_); (case side1 => exact nc_ (Kd.C_below HR0_1.out HB.out)); (case side2 => exact HC0_1.out); (case side3 => exact nc_ (Kd.C_below HR1.out HB.out)); (case side4 => exact HC1.out); rintro e w21 ⟨rfl, hb⟩; have n0_ := Aside0.mk (blk_below (g := gb796) (o := .cells #[.int .i64 a0_0, .slice A0_1 l0_1.length c0_1] 29 (0, 0)) (nb_ BK796.out) hb); have n1_ := Aside0.mk (below_step (ne_ HB.out) hb); clear BK796; clear HB; have BK796 := n0_; have HB := n1_; clear n0_ n1_; (try clear hb); (try clear hb2); (try clear hk); (try clear hi)))
        have n0_ := Aside0.mk (blk_drew BK796.out)
        have n1_ := Aside0.mk (below_drew1 HB.out)
        clear BK796
        clear HB
        have BK796 := n0_
        have HB := n1_
        clear n0_ n1_
        have p799 : 0 ≤ (0 : Int) := (by omega)
        have q799 : 0 < (l1.length : Int) := of_decide_eq_true nx_
        obtain ⟨ad799, e799, hx799_0⟩ := Kd.at_int HR1.out 0 p799 q799
        have hw799_0 := hx799_0
        (try rw [show ((0 : Int)).toNat = 0 from rfl] at hw799_0)
        (try rw [show 0 * 1 = 0 from rfl] at hw799_0)
        (try rw [Addr.add_zero'] at hw799_0)
        cases e799
        have qi799 : (0 < l1.length) = True := eq_true (by omega)
        (try rw [show ((0 : Int)).toNat = 0 from rfl] at hx799_0)
        (try rw [Addr.add_zero'] at hx799_0)
        replace hx799_0 := (HB.out.cell (World.block_lt_of_cell? w _ hx799_0)).trans hx799_0
        replace p799 := eq_true p799
        replace q799 := eq_true q799
        have p800 : 0 ≤ ((rd l1 0) : Int) := of_decide_eq_true nx_
        have q800 : (rd l1 0) < (l0_1.length : Int) := of_decide_eq_true nx_
        obtain ⟨ad800, e800, hx800_0, hx800_1, hx800_2, hx800_3, hx800_4⟩ := at_T37 HR0_1.out (rd l1 0) p800 q800
        have hw800_4 := hx800_4
        have hw800_3 := hx800_3
        have hw800_2 := hx800_2
        have hw800_1 := hx800_1
        have hw800_0 := hx800_0
        cases e800
        replace hx800_0 := (HB.out.cell (World.block_lt_of_cell? w _ hx800_0)).trans hx800_0
        replace hx800_1 := (HB.out.cell (World.block_lt_of_cell? w _ hx800_1)).trans hx800_1
        replace hx800_2 := (HB.out.cell (World.block_lt_of_cell? w _ hx800_2)).trans hx800_2
        replace hx800_3 := (HB.out.cell (World.block_lt_of_cell? w _ hx800_3)).trans hx800_3
        replace hx800_4 := (HB.out.cell (World.block_lt_of_cell? w _ hx800_4)).trans hx800_4
        replace p800 := eq_true p800
        replace q800 := eq_true q800
        refine start_ (n := 12) (S := fun w' => w'.cell? ⟨gb796, 0, none⟩ = some (.int .i64 a0_0) ∧ w'.cell? ⟨gb796, 1, none⟩ = some (.slice (some ad800) l0_1.length c0_1) ∧ w'.cell? ad799 = some (.int .i64 (rd l1 0)) ∧ w'.cell? (ad800.add (((rd l1 0)).toNat * 5)) = some (.int .i64 ((rd_T37 l0_1 (rd l1 0)).f0)) ∧ w'.cell? ⟨(ad800.add (((rd l1 0)).toNat * 5)).block, (ad800.add (((rd l1 0)).toNat * 5)).off + 1, none⟩ = some (.int .i64 ((rd_T37 l0_1 (rd l1 0)).f1)) ∧ w'.cell? ⟨(ad800.add (((rd l1 0)).toNat * 5)).block, (ad800.add (((rd l1 0)).toNat * 5)).off + 2, none⟩ = some (.int .i64 ((rd_T37 l0_1 (rd l1 0)).f2)) ∧ w'.cell? ⟨(ad800.add (((rd l1 0)).toNat * 5)).block, (ad800.add (((rd l1 0)).toNat * 5)).off + 3, none⟩ = some (.int .i64 ((rd_T37 l0_1 (rd l1 0)).f3)) ∧ w'.cell? ⟨(ad800.add (((rd l1 0)).toNat * 5)).block, (ad800.add (((rd l1 0)).toNat * 5)).off + 4, none⟩ = some (.int .i64 ((rd_T37 l0_1 (rd l1 0)).f4))) (ds := []) #[false, false, false, false, false, false, false, false, false, false, false, false] (by kernel_rfl) rfl rfl ⟨(blk_cell BK796.out 0).trans rfl, (blk_cell BK796.out 1).trans rfl, ((HB.out.cell (World.block_lt_of_cell? w _ hw799_0)).trans hw799_0), ((HB.out.cell (World.block_lt_of_cell? w _ hw800_0)).trans hw800_0), ((HB.out.cell (World.block_lt_of_cell? w _ hw800_1)).trans hw800_1), ((HB.out.cell (World.block_lt_of_cell? w _ hw800_2)).trans hw800_2), ((HB.out.cell (World.block_lt_of_cell? w _ hw800_3)).trans hw800_3), ((HB.out.cell (World.block_lt_of_cell? w _ hw800_4)).trans hw800_4)⟩ (fun hHeld => ?_); refine with_tabW spec_WalkNodes.tab3 spec_WalkNodes.bits3 (fun HT_ HW_ => ?_)
        generalize w21.drew = w22 at BK796 HB hx799_0 hx800_0 hx800_1 hx800_2 hx800_3 hx800_4 hHeld ⊢
        refine pu_ 1 20 #[false, true, false, false, false, false, false, false, false, false, false, false] HT_.out ?_
        refine pu_ 2 21 #[false, true, true, false, false, false, false, false, false, false, false, false] HT_.out ?_
        refine pu_ 4 23 #[false, true, true, false, true, false, false, false, false, false, false, false] HT_.out ?_
        refine pu_ 5 24 #[false, true, true, false, true, true, false, false, false, false, false, false] HT_.out ?_
        refine tk_ 0 19 #[true, true, true, false, true, true, false, false, false, false, false, false] HT_.out HW_.out hHeld ?_
        refine tk_ 3 22 #[true, true, true, true, true, true, false, false, false, false, false, false] HT_.out HW_.out hHeld ?_
        refine tk_ 6 25 #[true, true, true, true, true, true, true, false, false, false, false, false] HT_.out HW_.out hHeld ?_
        refine pu_ 7 26 #[true, true, true, true, true, true, true, true, false, false, false, false] HT_.out ?_
        refine pu_ 8 27 #[true, true, true, true, true, true, true, true, true, false, false, false] HT_.out ?_
        refine tk_ 9 28 #[true, true, true, true, true, true, true, true, true, true, false, false] HT_.out HW_.out hHeld ?_
        refine one_ (i := 10) (N := some 29) #[true, true, true, true, true, true, true, true, true, true, true, false] rfl rfl (one_of HT_.out (by kernel_rfl)) (by decide) (fun K hK => ?_)
        refine goes_ Try.func87 (by kernel_rfl) rfl #[.agg #[.int .i64 a0_0, .slice (some ad800) l0_1.length c0_1], .slice (some ad799) l1.length c1, .int .i64 ((rd_T37 l0_1 (rd l1 0)).f0)] (by rfl) rfl rfl na_ ?_
        with_reducible refine (spec_l2Nodes.calls k a0_0 _ _ l0_1 _ _ l1 ((rd_T37 l0_1 (rd l1 0)).f0) t801 _ ?side1 ?side2 ?side3 ?side4 A16.out).mono ?_
        (case side1 => exact nc_ (Kd.C_below HR0_1.out HB.out))
        (case side2 => exact HC0_1.out)
        (case side3 => exact nc_ (Kd.C_below HR1.out HB.out))
        (case side4 => exact HC1.out)
        rintro e w23 ⟨v802, rfl, ho0, hb⟩
        refine ⟨_, rfl, ?_⟩
        have n0_ := Aside0.mk (Kd.R_lower ho0 (below_size (ne_ HB.out)))
        have n1_ := Aside0.mk (blk_below (g := gb796) (o := .cells #[.int .i64 a0_0, .slice (some ad800) l0_1.length c0_1] 29 (0, 0)) (nb_ BK796.out) hb)
        have n2_ := Aside0.mk (below_step (ne_ HB.out) hb)
        clear BK796
        clear HB
        have HO803 := n0_
        have BK796 := n1_
        have HB := n2_
        clear n0_ n1_ n2_
        (try clear hb)
        (try clear hb2)
        (try clear hk)
        (try clear hi)
        (try clear ho0)
        refine hK.out _ _ ⟨(blk_cell BK796.out 0).trans rfl, (blk_cell BK796.out 1).trans rfl, ((HB.out.cell (World.block_lt_of_cell? w _ hw799_0)).trans hw799_0), ((HB.out.cell (World.block_lt_of_cell? w _ hw800_0)).trans hw800_0), ((HB.out.cell (World.block_lt_of_cell? w _ hw800_1)).trans hw800_1), ((HB.out.cell (World.block_lt_of_cell? w _ hw800_2)).trans hw800_2), ((HB.out.cell (World.block_lt_of_cell? w _ hw800_3)).trans hw800_3), ((HB.out.cell (World.block_lt_of_cell? w _ hw800_4)).trans hw800_4)⟩ (fun hHeld => ?_)
        clear hK K
        refine norm_ (a' := ?_) ?_ ?_
        rotate_left
        ·show Act.put _ (some 29) _ = _
         simp only [Act.put, List.setIfInBounds_toArray, List.set_cons_zero, List.set_cons_succ, i64_w, i32_w]
         rfl
        refine pu_ 11 4 #[true, true, true, true, true, true, true, true, true, true, true, true] HT_.out ?_
        refine done_ (done_of HT_.out (by kernel_rfl)) ?_
        try go_wp2
        go_ret
        exact ⟨_, by first | rfl | (simp [errW_none, errW_some] <;> rfl) | (simp [*, errW_none, errW_some] <;> rfl), by (with_reducible repeat (first | apply Kd.R_alloc | apply Kd.R_drewN | apply Kd.R_drew)); exact HO803.out, by repeat (first | (with_reducible first | exact HB.out | apply below_alloc | apply pw_below_drewN | apply below_drew1 | refine below_set ?_ GE796.out) | exact HB.out)⟩
       ·rw [if_neg c15] at H
        exact absurd H (by simp)
      ·rw [if_neg c14] at H
       exact absurd H (by simp)
     ·rw [if_neg c13] at H
      exact absurd H (by simp)
   ·replace c6 := Bool.eq_false_iff.mpr c6
    subst c6
    have H1 : (some ([] : List Int)) = some r := by rw [if_neg (show ¬ (false = true) by decide)] at H; exact H
    clear H
    have H := H1
    clear H1
    obtain rfl := Option.some.inj H
    go_enter Try.func51, Try.ntmps51
    go_wp2_with (first | ((with_reducible refine gate_dst (N := 2) rfl ?_); (try (refine gate_guard (by rfl) ?_; dsimp only)); refine box_event ?hg (N := 2) ?hd (cs := #[.int .i64 a0_0, .slice A0_1 l0_1.length c0_1]) (t := 29) ?hr ?_; (case hd => rfl); (case hg => rfl); (case hr => first | (go_simp; done) | (go_simp; rfl)); intro gb796 hg w24 hbox hb; have n0_ := Aside0.mk (below_step (ne_ HB.out) hb); have n1_ := Aside0.mk (hbox); have n2_ := Aside0.mk ((by rw [hg]; exact (below_size (ne_ HB.out)) : w.heap.size ≤ gb796)); have n3_ := Aside0.mk ((by rw [hg]; exact (below_size (ne_ HB.out)) : w.heap.size ≤ gb796)); clear HB; have HB := n0_; have BK796 := n1_; have GW796 := n2_; have GE796 := n3_; clear n0_ n1_ n2_ n3_; clear hb hbox hg; have hcz25_0 : w24.cell? ⟨gb796, 0, none⟩ = some (.int .i64 a0_0) := (blk_cell BK796.out 0).trans rfl; have hcz25_1 : w24.cell? ⟨gb796, 1, none⟩ = some (.slice A0_1 l0_1.length c0_1) := (blk_cell BK796.out 1).trans rfl; have hfz25_0 := blk_frozen BK796.out 0; have hfz25_1 := blk_frozen BK796.out 1) | ((with_reducible refine gate_callee (f := 60) rfl ?_); refine goesL_ (some 6) rfl rfl Try.func60 (by kernel_rfl) rfl #[.agg #[.int .i64 a0_0, .slice A0_1 l0_1.length c0_1]] rfl na_ ?_; (with_reducible refine (spec_l1Ok.calls k a0_0 _ _ l0_1 true _ ?side1 ?side2 A3.out).mono ?_); (case side1 => exact nc_ (Kd.C_below HR0_1.out HB.out)); (case side2 => exact HC0_1.out); rintro e w26 ⟨rfl, hb⟩; refine ⟨_, rfl, ?_⟩; have n0_ := Aside0.mk (blk_below (g := gb796) (o := .cells #[.int .i64 a0_0, .slice A0_1 l0_1.length c0_1] 29 (0, 0)) (nb_ BK796.out) hb); have n1_ := Aside0.mk (below_step (ne_ HB.out) hb); clear BK796; clear HB; have BK796 := n0_; have HB := n1_; clear n0_ n1_; (try clear hb); (try clear hb2); (try clear hk); (try clear hi); have hcz27_0 : w26.cell? ⟨gb796, 0, none⟩ = some (.int .i64 a0_0) := (blk_cell BK796.out 0).trans rfl; have hcz27_1 : w26.cell? ⟨gb796, 1, none⟩ = some (.slice A0_1 l0_1.length c0_1) := (blk_cell BK796.out 1).trans rfl; have hfz27_0 := blk_frozen BK796.out 0; have hfz27_1 := blk_frozen BK796.out 1) | (go_at_call 83; (with_reducible refine (spec_l2Ok.calls k a0_0 _ _ l0_1 _ _ l1 false _ ?side1 ?side2 ?side3 ?side4 A5.out).mono ?_); (case side1 => exact nc_ (Kd.C_below HR0_1.out HB.out)); (case side2 => exact HC0_1.out); (case side3 => exact nc_ (Kd.C_below HR1.out HB.out)); (case side4 => exact HC1.out); rintro e w28 ⟨rfl, hb⟩; have n0_ := Aside0.mk (blk_below (g := gb796) (o := .cells #[.int .i64 a0_0, .slice A0_1 l0_1.length c0_1] 29 (0, 0)) (nb_ BK796.out) hb); have n1_ := Aside0.mk (below_step (ne_ HB.out) hb); clear BK796; clear HB; have BK796 := n0_; have HB := n1_; clear n0_ n1_; (try clear hb); (try clear hb2); (try clear hk); (try clear hi)))
    go_ret
    exact ⟨_, by first | rfl | (simp [errW_none, errW_some] <;> rfl) | (simp [*, errW_none, errW_some] <;> rfl), by first | exact Kd.R_nil _ _ _ _ _ | exact Kd.N_nil _ _ _ _ _ | exact Kd.V_nil _ _ _ _ _ | exact Kd.Q_nil _ _ _ _ _ | exact Kd.S_nil _ _ _ _ _, by repeat (first | (with_reducible first | exact HB.out | apply below_alloc | apply pw_below_drewN | apply below_drew1 | refine below_set ?_ GE796.out) | exact HB.out)⟩
  ·replace c4 := Bool.eq_false_iff.mpr c4
   subst c4
   have H1 : (some ([] : List Int)) = some r := by rw [if_neg (show ¬ (false = true) by decide)] at H; exact H
   clear H
   have H := H1
   clear H1
   obtain rfl := Option.some.inj H
   go_enter Try.func51, Try.ntmps51
   go_wp2_with (first | ((with_reducible refine gate_dst (N := 2) rfl ?_); (try (refine gate_guard (by rfl) ?_; dsimp only)); refine box_event ?hg (N := 2) ?hd (cs := #[.int .i64 a0_0, .slice A0_1 l0_1.length c0_1]) (t := 29) ?hr ?_; (case hd => rfl); (case hg => rfl); (case hr => first | (go_simp; done) | (go_simp; rfl)); intro gb796 hg w29 hbox hb; have n0_ := Aside0.mk (below_step (ne_ HB.out) hb); have n1_ := Aside0.mk (hbox); have n2_ := Aside0.mk ((by rw [hg]; exact (below_size (ne_ HB.out)) : w.heap.size ≤ gb796)); have n3_ := Aside0.mk ((by rw [hg]; exact (below_size (ne_ HB.out)) : w.heap.size ≤ gb796)); clear HB; have HB := n0_; have BK796 := n1_; have GW796 := n2_; have GE796 := n3_; clear n0_ n1_ n2_ n3_; clear hb hbox hg; have hcz30_0 : w29.cell? ⟨gb796, 0, none⟩ = some (.int .i64 a0_0) := (blk_cell BK796.out 0).trans rfl; have hcz30_1 : w29.cell? ⟨gb796, 1, none⟩ = some (.slice A0_1 l0_1.length c0_1) := (blk_cell BK796.out 1).trans rfl; have hfz30_0 := blk_frozen BK796.out 0; have hfz30_1 := blk_frozen BK796.out 1) | ((with_reducible refine gate_callee (f := 60) rfl ?_); refine goesL_ (some 6) rfl rfl Try.func60 (by kernel_rfl) rfl #[.agg #[.int .i64 a0_0, .slice A0_1 l0_1.length c0_1]] rfl na_ ?_; (with_reducible refine (spec_l1Ok.calls k a0_0 _ _ l0_1 false _ ?side1 ?side2 A3.out).mono ?_); (case side1 => exact nc_ (Kd.C_below HR0_1.out HB.out)); (case side2 => exact HC0_1.out); rintro e w31 ⟨rfl, hb⟩; refine ⟨_, rfl, ?_⟩; have n0_ := Aside0.mk (blk_below (g := gb796) (o := .cells #[.int .i64 a0_0, .slice A0_1 l0_1.length c0_1] 29 (0, 0)) (nb_ BK796.out) hb); have n1_ := Aside0.mk (below_step (ne_ HB.out) hb); clear BK796; clear HB; have BK796 := n0_; have HB := n1_; clear n0_ n1_; (try clear hb); (try clear hb2); (try clear hk); (try clear hi)))
   go_ret
   exact ⟨_, by first | rfl | (simp [errW_none, errW_some] <;> rfl) | (simp [*, errW_none, errW_some] <;> rfl), by first | exact Kd.R_nil _ _ _ _ _ | exact Kd.N_nil _ _ _ _ _ | exact Kd.V_nil _ _ _ _ _ | exact Kd.Q_nil _ _ _ _ _ | exact Kd.S_nil _ _ _ _ _, by repeat (first | (with_reducible first | exact HB.out | apply below_alloc | apply pw_below_drewN | apply below_drew1 | refine below_set ?_ GE796.out) | exact HB.out)⟩

end Go.Proofs.Ytpjmkghmjpbldaa.Print
