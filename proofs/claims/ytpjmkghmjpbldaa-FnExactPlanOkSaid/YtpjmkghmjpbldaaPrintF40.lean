-- Made by this session's own program (wip/patch_print.py, over the kit's print). Lean checks it.
import Derived.Test.YtpjmkghmjpbldaaPrint0
import Derived.Test.YtpjmkghmjpbldaaPrintB
import Derived.Test.YtpjmkghmjpbldaaPrintF80
namespace Go.Proofs.Ytpjmkghmjpbldaa.Print
open Go.RowKit Go.Proofs.YtpjmkghmjpbldaaW.PrintWords Go.Proofs.YtpjmkghmjpbldaaW.PrintLast Go.Proofs.YtpjmkghmjpbldaaW.PrintMore Go.Proofs.YtpjmkghmjpbldaaX
attribute [local go_sem] max2_int min2_int max_two min_two max_three min_three max_four min_four   -- for this text's walks alone
set_option linter.unusedVariables false
set_option linter.unusedSimpArgs false

abbrev bN40 := @blk_drewN
abbrev bD40 := @blk_drew
abbrev bA40 := @blk_alloc
abbrev bB40 := @blk_below
abbrev bC40 := @blk_cell
abbrev eS40 := @below_step
/-! ### impl_PlanOk: function 40 -/
mutual
def impl_PlanOk.j0 : Nat → Bool → Int → Int → List (S89) → Option (Bool)
  | 0, _, _, _, _ => none
  | k + 1, x21, x519000, x519001, x519002 => if x21 = true then (some false) else (impl_PlanOk.l0 k x519002 (x519002.length : Int) 0 x519000 x519001 x519002)
def impl_PlanOk.l0 : Nat → List (S89) → Int → Int → Int → Int → List (S89) → Option (Bool)
  | 0, _, _, _, _, _, _ => none
  | k + 1, x23, x24, x25, x519000, x519001, x519002 => if x25 < x24 then (if 0 ≤ x25 then (if x25 < (x23.length : Int) then ((impl_Plan_stop.f x519000 x519001 x519002 ((rd_T89 x23 x25).f0)).bind fun t523 => (if t523 = true then ((impl_Plan_stop.f x519000 x519001 x519002 ((rd_T89 x23 x25).f1)).bind fun t524 => (if t524 = true then (if ((rd_T89 x23 x25).f0) = ((rd_T89 x23 x25).f1) then (impl_PlanOk.j2 k x25 x23 x24 x25 true x519000 x519001 x519002 ((rd_T89 x23 x25).f0) ((rd_T89 x23 x25).f1) ((rd_T89 x23 x25).f2) ((rd_T89 x23 x25).f3) ((rd_T89 x23 x25).f4)) else ((impl_Step_valid.f ((rd_T89 x23 x25).f2) ((rd_T89 x23 x25).f3)).bind fun t525 => (if t525 = true then ((impl_within.f ((rd_T89 x23 x25).f4) 0 5).bind fun t526 => (impl_PlanOk.j2 k x25 x23 x24 x25 (!t526) x519000 x519001 x519002 ((rd_T89 x23 x25).f0) ((rd_T89 x23 x25).f1) ((rd_T89 x23 x25).f2) ((rd_T89 x23 x25).f3) ((rd_T89 x23 x25).f4))) else (impl_PlanOk.j2 k x25 x23 x24 x25 true x519000 x519001 x519002 ((rd_T89 x23 x25).f0) ((rd_T89 x23 x25).f1) ((rd_T89 x23 x25).f2) ((rd_T89 x23 x25).f3) ((rd_T89 x23 x25).f4))))) else (impl_PlanOk.j2 k x25 x23 x24 x25 true x519000 x519001 x519002 ((rd_T89 x23 x25).f0) ((rd_T89 x23 x25).f1) ((rd_T89 x23 x25).f2) ((rd_T89 x23 x25).f3) ((rd_T89 x23 x25).f4)))) else (impl_PlanOk.j2 k x25 x23 x24 x25 true x519000 x519001 x519002 ((rd_T89 x23 x25).f0) ((rd_T89 x23 x25).f1) ((rd_T89 x23 x25).f2) ((rd_T89 x23 x25).f3) ((rd_T89 x23 x25).f4)))) else (none)) else (none)) else (some true)
def impl_PlanOk.j2 : Nat → Int → List (S89) → Int → Int → Bool → Int → Int → List (S89) → Int → Int → Int → Int → Int → Option (Bool)
  | 0, _, _, _, _, _, _, _, _, _, _, _, _, _ => none
  | k + 1, x3, x23, x24, x25, x63, x519000, x519001, x519002, x523000, x523001, x523002, x523003, x523004 => if x63 = true then (some false) else (if x3 > 0 then (if 0 ≤ (wrap64 (x3 - 1)) then (if (wrap64 (x3 - 1)) < (x519002.length : Int) then (impl_PlanOk.j3 k x3 x23 x24 x25 (decide (((rd_T89 x519002 (wrap64 (x3 - 1))).f2) > x523002)) x519000 x519001 x519002 x523000 x523001 x523002 x523003 x523004) else (none)) else (none)) else (impl_PlanOk.j3 k x3 x23 x24 x25 false x519000 x519001 x519002 x523000 x523001 x523002 x523003 x523004))
def impl_PlanOk.j3 : Nat → Int → List (S89) → Int → Int → Bool → Int → Int → List (S89) → Int → Int → Int → Int → Int → Option (Bool)
  | 0, _, _, _, _, _, _, _, _, _, _, _, _, _ => none
  | k + 1, x3, x23, x24, x25, x77, x519000, x519001, x519002, x523000, x523001, x523002, x523003, x523004 => if x77 = true then (some false) else ((impl_Plan_before.f k x519000 x519001 x519002 x3).bind fun t528 => (if t528 ≥ 0 then (if 0 ≤ t528 then (if t528 < (x519002.length : Int) then (if ((rd_T89 x519002 t528).f1) = x523000 then (if ((rd_T89 x519002 t528).f3) > x523002 then (some false) else (impl_PlanOk.l0 k x23 x24 (wrap64 (x25 + 1)) x519000 x519001 x519002)) else (some false)) else (none)) else (none)) else (impl_PlanOk.l0 k x23 x24 (wrap64 (x25 + 1)) x519000 x519001 x519002)))
end
def impl_PlanOk.f (k : Nat) (a0_0 : Int) (a0_1 : Int) (l0_2 : List (S89)) : Option (Bool) := (impl_within.f a0_0 1 8).bind fun t519 => (if t519 = true then ((impl_within.f a0_1 0 20).bind fun t520 => (if t520 = true then (impl_PlanOk.j0 k (decide ((l0_2.length : Int) > 16)) a0_0 a0_1 l0_2) else (impl_PlanOk.j0 k true a0_0 a0_1 l0_2))) else (impl_PlanOk.j0 k true a0_0 a0_1 l0_2))
theorem impl_PlanOk.mono_l : ∀ k, (∀ y0 y1 y2 y3, LeO (impl_PlanOk.j0 k y0 y1 y2 y3) (impl_PlanOk.j0 (k + 1) y0 y1 y2 y3)) ∧ (∀ y0 y1 y2 y3 y4 y5, LeO (impl_PlanOk.l0 k y0 y1 y2 y3 y4 y5) (impl_PlanOk.l0 (k + 1) y0 y1 y2 y3 y4 y5)) ∧ (∀ y0 y1 y2 y3 y4 y5 y6 y7 y8 y9 y10 y11 y12, LeO (impl_PlanOk.j2 k y0 y1 y2 y3 y4 y5 y6 y7 y8 y9 y10 y11 y12) (impl_PlanOk.j2 (k + 1) y0 y1 y2 y3 y4 y5 y6 y7 y8 y9 y10 y11 y12)) ∧ (∀ y0 y1 y2 y3 y4 y5 y6 y7 y8 y9 y10 y11 y12, LeO (impl_PlanOk.j3 k y0 y1 y2 y3 y4 y5 y6 y7 y8 y9 y10 y11 y12) (impl_PlanOk.j3 (k + 1) y0 y1 y2 y3 y4 y5 y6 y7 y8 y9 y10 y11 y12))
  | 0 => ⟨fun _ _ _ _ r h => by simp [impl_PlanOk.j0] at h, fun _ _ _ _ _ _ r h => by simp [impl_PlanOk.l0] at h, fun _ _ _ _ _ _ _ _ _ _ _ _ _ r h => by simp [impl_PlanOk.j2] at h, fun _ _ _ _ _ _ _ _ _ _ _ _ _ r h => by simp [impl_PlanOk.j3] at h⟩
  | k + 1 => by
    obtain ⟨ih0, ih1, ih2, ih3⟩ := impl_PlanOk.mono_l k
    refine ⟨?_, ?_, ?_, ?_⟩
    · intro y0 y1 y2 y3
      unfold impl_PlanOk.j0
      repeat' first
      | (with_reducible exact ih0 _ _ _ _)
      | (with_reducible exact ih1 _ _ _ _ _ _)
      | (with_reducible exact ih2 _ _ _ _ _ _ _ _ _ _ _ _ _)
      | (with_reducible exact ih3 _ _ _ _ _ _ _ _ _ _ _ _ _)
      | (with_reducible exact impl_Plan_before.mono _ _ _ _ _)
      | (with_reducible exact LeO.refl _)
      | (with_reducible exact LeO.none _)
      | (with_reducible refine LeO.ite ?_ ?_)
      | (with_reducible refine LeO.bind ?_ (fun _ => ?_))
      | exact ih0 _ _ _ _
      | exact ih1 _ _ _ _ _ _
      | exact ih2 _ _ _ _ _ _ _ _ _ _ _ _ _
      | exact ih3 _ _ _ _ _ _ _ _ _ _ _ _ _
      | exact impl_Plan_before.mono _ _ _ _ _
      | exact LeO.none _
      | refine LeO.ite ?_ ?_
      | refine LeO.bind ?_ (fun _ => ?_)
    · intro y0 y1 y2 y3 y4 y5
      unfold impl_PlanOk.l0
      repeat' first
      | (with_reducible exact ih0 _ _ _ _)
      | (with_reducible exact ih1 _ _ _ _ _ _)
      | (with_reducible exact ih2 _ _ _ _ _ _ _ _ _ _ _ _ _)
      | (with_reducible exact ih3 _ _ _ _ _ _ _ _ _ _ _ _ _)
      | (with_reducible exact impl_Plan_before.mono _ _ _ _ _)
      | (with_reducible exact LeO.refl _)
      | (with_reducible exact LeO.none _)
      | (with_reducible refine LeO.ite ?_ ?_)
      | (with_reducible refine LeO.bind ?_ (fun _ => ?_))
      | exact ih0 _ _ _ _
      | exact ih1 _ _ _ _ _ _
      | exact ih2 _ _ _ _ _ _ _ _ _ _ _ _ _
      | exact ih3 _ _ _ _ _ _ _ _ _ _ _ _ _
      | exact impl_Plan_before.mono _ _ _ _ _
      | exact LeO.none _
      | refine LeO.ite ?_ ?_
      | refine LeO.bind ?_ (fun _ => ?_)
    · intro y0 y1 y2 y3 y4 y5 y6 y7 y8 y9 y10 y11 y12
      unfold impl_PlanOk.j2
      repeat' first
      | (with_reducible exact ih0 _ _ _ _)
      | (with_reducible exact ih1 _ _ _ _ _ _)
      | (with_reducible exact ih2 _ _ _ _ _ _ _ _ _ _ _ _ _)
      | (with_reducible exact ih3 _ _ _ _ _ _ _ _ _ _ _ _ _)
      | (with_reducible exact impl_Plan_before.mono _ _ _ _ _)
      | (with_reducible exact LeO.refl _)
      | (with_reducible exact LeO.none _)
      | (with_reducible refine LeO.ite ?_ ?_)
      | (with_reducible refine LeO.bind ?_ (fun _ => ?_))
      | exact ih0 _ _ _ _
      | exact ih1 _ _ _ _ _ _
      | exact ih2 _ _ _ _ _ _ _ _ _ _ _ _ _
      | exact ih3 _ _ _ _ _ _ _ _ _ _ _ _ _
      | exact impl_Plan_before.mono _ _ _ _ _
      | exact LeO.none _
      | refine LeO.ite ?_ ?_
      | refine LeO.bind ?_ (fun _ => ?_)
    · intro y0 y1 y2 y3 y4 y5 y6 y7 y8 y9 y10 y11 y12
      unfold impl_PlanOk.j3
      repeat' first
      | (with_reducible exact ih0 _ _ _ _)
      | (with_reducible exact ih1 _ _ _ _ _ _)
      | (with_reducible exact ih2 _ _ _ _ _ _ _ _ _ _ _ _ _)
      | (with_reducible exact ih3 _ _ _ _ _ _ _ _ _ _ _ _ _)
      | (with_reducible exact impl_Plan_before.mono _ _ _ _ _)
      | (with_reducible exact LeO.refl _)
      | (with_reducible exact LeO.none _)
      | (with_reducible refine LeO.ite ?_ ?_)
      | (with_reducible refine LeO.bind ?_ (fun _ => ?_))
      | exact ih0 _ _ _ _
      | exact ih1 _ _ _ _ _ _
      | exact ih2 _ _ _ _ _ _ _ _ _ _ _ _ _
      | exact ih3 _ _ _ _ _ _ _ _ _ _ _ _ _
      | exact impl_Plan_before.mono _ _ _ _ _
      | exact LeO.none _
      | refine LeO.ite ?_ ?_
      | refine LeO.bind ?_ (fun _ => ?_)
theorem impl_PlanOk.mono : ∀ a0 a1 a2 k, LeO (impl_PlanOk.f k a0 a1 a2) (impl_PlanOk.f (k + 1) a0 a1 a2) := by
  intro a0 a1 a2 k
  obtain ⟨ih0, ih1, ih2, ih3⟩ := impl_PlanOk.mono_l k
  unfold impl_PlanOk.f
  repeat' first
      | (with_reducible exact ih0 _ _ _ _)
      | (with_reducible exact ih1 _ _ _ _ _ _)
      | (with_reducible exact ih2 _ _ _ _ _ _ _ _ _ _ _ _ _)
      | (with_reducible exact ih3 _ _ _ _ _ _ _ _ _ _ _ _ _)
      | (with_reducible exact impl_Plan_before.mono _ _ _ _ _)
      | (with_reducible exact LeO.refl _)
      | (with_reducible exact LeO.none _)
      | (with_reducible refine LeO.ite ?_ ?_)
      | (with_reducible refine LeO.bind ?_ (fun _ => ?_))
      | exact ih0 _ _ _ _
      | exact ih1 _ _ _ _ _ _
      | exact ih2 _ _ _ _ _ _ _ _ _ _ _ _ _
      | exact ih3 _ _ _ _ _ _ _ _ _ _ _ _ _
      | exact impl_Plan_before.mono _ _ _ _ _
      | exact LeO.none _
      | refine LeO.ite ?_ ?_
      | refine LeO.bind ?_ (fun _ => ?_)
set_option maxHeartbeats 8000000 in
set_option maxRecDepth 100000 in
theorem impl_PlanOk.calls (k : Nat) (a0_0 : Int) (a0_1 : Int) (A0_2 : Option Addr) (c0_2 : Nat) (l0_2 : List (S89)) (r : Bool) (w : World) (hr0_2 : Kd.C k89 w A0_2 l0_2.length l0_2) (hc0_2 : l0_2.length ≤ c0_2) (h : impl_PlanOk.f k a0_0 a0_1 l0_2 = some r) :
    Calls Try.prog 40 #[.agg #[.int .i64 a0_0, .int .i64 a0_1, .slice A0_2 l0_2.length c0_2]] w fun e w' => e = .returned (.bool r) ∧ Below w.heap.size w w' := by
  have hu54 := Try.underlying54
  have hu89 := Try.underlying89
  have hu91 := Try.underlying91
  have HR0_2 := Aside0.mk hr0_2
  have HC0_2 := Aside0.mk hc0_2
  clear hr0_2 hc0_2
  have HB := Aside0.mk (Below.refl w.heap.size w)
  have H : ((impl_within.f a0_0 1 8).bind fun t519 => (if t519 = true then ((impl_within.f a0_1 0 20).bind fun t520 => (if t520 = true then (impl_PlanOk.j0 k (decide ((l0_2.length : Int) > 16)) a0_0 a0_1 l0_2) else (impl_PlanOk.j0 k true a0_0 a0_1 l0_2))) else (impl_PlanOk.j0 k true a0_0 a0_1 l0_2))) = some r := h
  clear h
  have HC2 := Aside0.mk H
  clear H
  go_enter Try.func40, Try.ntmps40
  go_upto_region 1 with (first | ((with_reducible refine gate_dst (N := 1) rfl ?_); (try (refine gate_guard (by rfl) ?_; dsimp only)); refine box_event ?hg (N := 1) ?hd (cs := #[.int .i64 a0_0, .int .i64 a0_1, .slice A0_2 l0_2.length c0_2]) (t := 54) ?hr ?_; (case hd => rfl); (case hg => rfl); (case hr => first | (go_simp; done) | (go_simp; rfl)); intro gb518 hg w3 hbox hb; have n0_ := Aside0.mk (eS40 (ne_ HB.out) hb); have n1_ := Aside0.mk (hbox); have n2_ := Aside0.mk ((by rw [hg]; exact (below_size (ne_ HB.out)) : w.heap.size ≤ gb518)); have n3_ := Aside0.mk ((by rw [hg]; exact (below_size (ne_ HB.out)) : w.heap.size ≤ gb518)); clear HB; have HB := n0_; have BK518 := n1_; have GW518 := n2_; have GE518 := n3_; clear n0_ n1_ n2_ n3_; clear hb hbox hg))
  repeat (go_quiet (first | ((with_reducible refine gate_dst (N := 1) rfl ?_); (try (refine gate_guard (by rfl) ?_; dsimp only)); refine box_event ?hg (N := 1) ?hd (cs := #[.int .i64 a0_0, .int .i64 a0_1, .slice A0_2 l0_2.length c0_2]) (t := 54) ?hr ?_; (case hd => rfl); (case hg => rfl); (case hr => first | (go_simp; done) | (go_simp; rfl)); intro gb518 hg w3 hbox hb; have n0_ := Aside0.mk (eS40 (ne_ HB.out) hb); have n1_ := Aside0.mk (hbox); have n2_ := Aside0.mk ((by rw [hg]; exact (below_size (ne_ HB.out)) : w.heap.size ≤ gb518)); have n3_ := Aside0.mk ((by rw [hg]; exact (below_size (ne_ HB.out)) : w.heap.size ≤ gb518)); clear HB; have HB := n0_; have BK518 := n1_; have GW518 := n2_; have GE518 := n3_; clear n0_ n1_ n2_ n3_; clear hb hbox hg)); go_upto_region 1 with (first | ((with_reducible refine gate_dst (N := 1) rfl ?_); (try (refine gate_guard (by rfl) ?_; dsimp only)); refine box_event ?hg (N := 1) ?hd (cs := #[.int .i64 a0_0, .int .i64 a0_1, .slice A0_2 l0_2.length c0_2]) (t := 54) ?hr ?_; (case hd => rfl); (case hg => rfl); (case hr => first | (go_simp; done) | (go_simp; rfl)); intro gb518 hg w3 hbox hb; have n0_ := Aside0.mk (eS40 (ne_ HB.out) hb); have n1_ := Aside0.mk (hbox); have n2_ := Aside0.mk ((by rw [hg]; exact (below_size (ne_ HB.out)) : w.heap.size ≤ gb518)); have n3_ := Aside0.mk ((by rw [hg]; exact (below_size (ne_ HB.out)) : w.heap.size ≤ gb518)); clear HB; have HB := n0_; have BK518 := n1_; have GW518 := n2_; have GE518 := n3_; clear n0_ n1_ n2_ n3_; clear hb hbox hg)))
  (try simp only [Act.put, List.setIfInBounds_toArray, List.set_cons_zero, List.set_cons_succ])
  go_cut [21] (fun v21 wc => ∃ (kq : Nat) (x21_1 : Bool), v21 = .bool x21_1 ∧ Aside0 (impl_PlanOk.j0 kq x21_1 a0_0 a0_1 l0_2 = some r) ∧ Aside0 (kq ≤ k) ∧ Aside0 (wc.heap[gb518]? = some (.cells #[.int .i64 a0_0, .int .i64 a0_1, (.slice A0_2 l0_2.length c0_2)] 54 (0, 0))) ∧ Aside0 (Below w.heap.size w wc))
  case first =>
   have H := HC2.out
   clear HC2
   replace H := Option.bind_eq_some_iff.mp H
   obtain ⟨t519, A40, H⟩ := H
   replace H : (if t519 = true then ((impl_within.f a0_1 0 20).bind fun t520 => (if t520 = true then (impl_PlanOk.j0 k (decide ((l0_2.length : Int) > 16)) a0_0 a0_1 l0_2) else (impl_PlanOk.j0 k true a0_0 a0_1 l0_2))) else (impl_PlanOk.j0 k true a0_0 a0_1 l0_2)) = some r := H
   have A4 := Aside0.mk A40
   clear A40
   by_cases c5 : t519 = true
   ·subst c5
    have H1 : ((impl_within.f a0_1 0 20).bind fun t520 => (if t520 = true then (impl_PlanOk.j0 k (decide ((l0_2.length : Int) > 16)) a0_0 a0_1 l0_2) else (impl_PlanOk.j0 k true a0_0 a0_1 l0_2))) = some r := by rw [if_pos rfl] at H; exact H
    clear H
    have H := H1
    clear H1
    replace H := Option.bind_eq_some_iff.mp H
    obtain ⟨t520, A60, H⟩ := H
    replace H : (if t520 = true then (impl_PlanOk.j0 k (decide ((l0_2.length : Int) > 16)) a0_0 a0_1 l0_2) else (impl_PlanOk.j0 k true a0_0 a0_1 l0_2)) = some r := H
    have A6 := Aside0.mk A60
    clear A60
    by_cases c7 : t520 = true
    ·subst c7
     have H1 : (impl_PlanOk.j0 k (decide ((l0_2.length : Int) > 16)) a0_0 a0_1 l0_2) = some r := by rw [if_pos rfl] at H; exact H
     clear H
     have H := H1
     clear H1
     have H' := Aside0.mk H
     clear H
     have hcz8_0 : w3.cell? ⟨gb518, 0, none⟩ = some (.int .i64 a0_0) := (bC40 BK518.out 0).trans rfl
     have hcz8_1 : w3.cell? ⟨gb518, 1, none⟩ = some (.int .i64 a0_1) := (bC40 BK518.out 1).trans rfl
     have hcz8_2 : w3.cell? ⟨gb518, 2, none⟩ = some (.slice A0_2 l0_2.length c0_2) := (bC40 BK518.out 2).trans rfl
     have hfz8_0 := blk_frozen BK518.out 0
     have hfz8_1 := blk_frozen BK518.out 1
     have hfz8_2 := blk_frozen BK518.out 2
     go_wp2_with (first | (go_at_call 62; (with_reducible refine (impl_within.calls a0_0 1 8 true _ A4.out).mono ?_); rintro e w' ⟨rfl, ⟨nd, rfl⟩⟩; (try first | exact ⟨rfl, _, World.drewN_drewN _ _ _⟩ | exact ⟨rfl, _, Eq.trans (World.drewN_drewN _ _ _) (congrArg (World.drewN _) (Nat.add_assoc _ _ _))⟩)) | (go_at_call 62; (with_reducible refine (impl_within.calls a0_1 0 20 true _ A6.out).mono ?_); rintro e w' ⟨rfl, ⟨nd, rfl⟩⟩; (try first | exact ⟨rfl, _, World.drewN_drewN _ _ _⟩ | exact ⟨rfl, _, Eq.trans (World.drewN_drewN _ _ _) (congrArg (World.drewN _) (Nat.add_assoc _ _ _))⟩)))
     repeat (go_quiet (first | (go_at_call 62; (with_reducible refine (impl_within.calls a0_0 1 8 true _ A4.out).mono ?_); rintro e w' ⟨rfl, ⟨nd, rfl⟩⟩; (try first | exact ⟨rfl, _, World.drewN_drewN _ _ _⟩ | exact ⟨rfl, _, Eq.trans (World.drewN_drewN _ _ _) (congrArg (World.drewN _) (Nat.add_assoc _ _ _))⟩)) | (go_at_call 62; (with_reducible refine (impl_within.calls a0_1 0 20 true _ A6.out).mono ?_); rintro e w' ⟨rfl, ⟨nd, rfl⟩⟩; (try first | exact ⟨rfl, _, World.drewN_drewN _ _ _⟩ | exact ⟨rfl, _, Eq.trans (World.drewN_drewN _ _ _) (congrArg (World.drewN _) (Nat.add_assoc _ _ _))⟩))); try go_wp2_with (first | (go_at_call 62; (with_reducible refine (impl_within.calls a0_0 1 8 true _ A4.out).mono ?_); rintro e w' ⟨rfl, ⟨nd, rfl⟩⟩; (try first | exact ⟨rfl, _, World.drewN_drewN _ _ _⟩ | exact ⟨rfl, _, Eq.trans (World.drewN_drewN _ _ _) (congrArg (World.drewN _) (Nat.add_assoc _ _ _))⟩)) | (go_at_call 62; (with_reducible refine (impl_within.calls a0_1 0 20 true _ A6.out).mono ?_); rintro e w' ⟨rfl, ⟨nd, rfl⟩⟩; (try first | exact ⟨rfl, _, World.drewN_drewN _ _ _⟩ | exact ⟨rfl, _, Eq.trans (World.drewN_drewN _ _ _) (congrArg (World.drewN _) (Nat.add_assoc _ _ _))⟩))))
     go_meet
     case rel => exact ⟨_, (decide ((l0_2.length : Int) > 16)), ns_, H', ⟨by first | omega | exact Nat.le_refl _⟩, ⟨by (with_reducible repeat (first | refine bN40 ?_ _ | refine bD40 ?_ | refine bA40 ?_ _)); exact BK518.out⟩, ⟨by repeat (first | (with_reducible first | exact HB.out | apply below_alloc | apply pw_below_drewN | apply below_drew1 | refine below_set ?_ GE518.out) | exact HB.out)⟩⟩
    ·replace c7 := Bool.eq_false_iff.mpr c7
     subst c7
     have H1 : (impl_PlanOk.j0 k true a0_0 a0_1 l0_2) = some r := by rw [if_neg (show ¬ (false = true) by decide)] at H; exact H
     clear H
     have H := H1
     clear H1
     have H' := Aside0.mk H
     clear H
     have hcz9_0 : w3.cell? ⟨gb518, 0, none⟩ = some (.int .i64 a0_0) := (bC40 BK518.out 0).trans rfl
     have hcz9_1 : w3.cell? ⟨gb518, 1, none⟩ = some (.int .i64 a0_1) := (bC40 BK518.out 1).trans rfl
     have hcz9_2 : w3.cell? ⟨gb518, 2, none⟩ = some (.slice A0_2 l0_2.length c0_2) := (bC40 BK518.out 2).trans rfl
     have hfz9_0 := blk_frozen BK518.out 0
     have hfz9_1 := blk_frozen BK518.out 1
     have hfz9_2 := blk_frozen BK518.out 2
     go_wp2_with (first | (go_at_call 62; (with_reducible refine (impl_within.calls a0_0 1 8 true _ A4.out).mono ?_); rintro e w' ⟨rfl, ⟨nd, rfl⟩⟩; (try first | exact ⟨rfl, _, World.drewN_drewN _ _ _⟩ | exact ⟨rfl, _, Eq.trans (World.drewN_drewN _ _ _) (congrArg (World.drewN _) (Nat.add_assoc _ _ _))⟩)) | (go_at_call 62; (with_reducible refine (impl_within.calls a0_1 0 20 false _ A6.out).mono ?_); rintro e w' ⟨rfl, ⟨nd, rfl⟩⟩; (try first | exact ⟨rfl, _, World.drewN_drewN _ _ _⟩ | exact ⟨rfl, _, Eq.trans (World.drewN_drewN _ _ _) (congrArg (World.drewN _) (Nat.add_assoc _ _ _))⟩)))
     repeat (go_quiet (first | (go_at_call 62; (with_reducible refine (impl_within.calls a0_0 1 8 true _ A4.out).mono ?_); rintro e w' ⟨rfl, ⟨nd, rfl⟩⟩; (try first | exact ⟨rfl, _, World.drewN_drewN _ _ _⟩ | exact ⟨rfl, _, Eq.trans (World.drewN_drewN _ _ _) (congrArg (World.drewN _) (Nat.add_assoc _ _ _))⟩)) | (go_at_call 62; (with_reducible refine (impl_within.calls a0_1 0 20 false _ A6.out).mono ?_); rintro e w' ⟨rfl, ⟨nd, rfl⟩⟩; (try first | exact ⟨rfl, _, World.drewN_drewN _ _ _⟩ | exact ⟨rfl, _, Eq.trans (World.drewN_drewN _ _ _) (congrArg (World.drewN _) (Nat.add_assoc _ _ _))⟩))); try go_wp2_with (first | (go_at_call 62; (with_reducible refine (impl_within.calls a0_0 1 8 true _ A4.out).mono ?_); rintro e w' ⟨rfl, ⟨nd, rfl⟩⟩; (try first | exact ⟨rfl, _, World.drewN_drewN _ _ _⟩ | exact ⟨rfl, _, Eq.trans (World.drewN_drewN _ _ _) (congrArg (World.drewN _) (Nat.add_assoc _ _ _))⟩)) | (go_at_call 62; (with_reducible refine (impl_within.calls a0_1 0 20 false _ A6.out).mono ?_); rintro e w' ⟨rfl, ⟨nd, rfl⟩⟩; (try first | exact ⟨rfl, _, World.drewN_drewN _ _ _⟩ | exact ⟨rfl, _, Eq.trans (World.drewN_drewN _ _ _) (congrArg (World.drewN _) (Nat.add_assoc _ _ _))⟩))))
     go_meet
     case rel => exact ⟨_, (true), ns_, H', ⟨by first | omega | exact Nat.le_refl _⟩, ⟨by (with_reducible repeat (first | refine bN40 ?_ _ | refine bD40 ?_ | refine bA40 ?_ _)); exact BK518.out⟩, ⟨by repeat (first | (with_reducible first | exact HB.out | apply below_alloc | apply pw_below_drewN | apply below_drew1 | refine below_set ?_ GE518.out) | exact HB.out)⟩⟩
   ·replace c5 := Bool.eq_false_iff.mpr c5
    subst c5
    have H1 : (impl_PlanOk.j0 k true a0_0 a0_1 l0_2) = some r := by rw [if_neg (show ¬ (false = true) by decide)] at H; exact H
    clear H
    have H := H1
    clear H1
    have H' := Aside0.mk H
    clear H
    have hcz10_0 : w3.cell? ⟨gb518, 0, none⟩ = some (.int .i64 a0_0) := (bC40 BK518.out 0).trans rfl
    have hcz10_1 : w3.cell? ⟨gb518, 1, none⟩ = some (.int .i64 a0_1) := (bC40 BK518.out 1).trans rfl
    have hcz10_2 : w3.cell? ⟨gb518, 2, none⟩ = some (.slice A0_2 l0_2.length c0_2) := (bC40 BK518.out 2).trans rfl
    have hfz10_0 := blk_frozen BK518.out 0
    have hfz10_1 := blk_frozen BK518.out 1
    have hfz10_2 := blk_frozen BK518.out 2
    go_wp2_with (first | (go_at_call 62; (with_reducible refine (impl_within.calls a0_0 1 8 false _ A4.out).mono ?_); rintro e w' ⟨rfl, ⟨nd, rfl⟩⟩; (try first | exact ⟨rfl, _, World.drewN_drewN _ _ _⟩ | exact ⟨rfl, _, Eq.trans (World.drewN_drewN _ _ _) (congrArg (World.drewN _) (Nat.add_assoc _ _ _))⟩)))
    repeat (go_quiet (first | (go_at_call 62; (with_reducible refine (impl_within.calls a0_0 1 8 false _ A4.out).mono ?_); rintro e w' ⟨rfl, ⟨nd, rfl⟩⟩; (try first | exact ⟨rfl, _, World.drewN_drewN _ _ _⟩ | exact ⟨rfl, _, Eq.trans (World.drewN_drewN _ _ _) (congrArg (World.drewN _) (Nat.add_assoc _ _ _))⟩))); try go_wp2_with (first | (go_at_call 62; (with_reducible refine (impl_within.calls a0_0 1 8 false _ A4.out).mono ?_); rintro e w' ⟨rfl, ⟨nd, rfl⟩⟩; (try first | exact ⟨rfl, _, World.drewN_drewN _ _ _⟩ | exact ⟨rfl, _, Eq.trans (World.drewN_drewN _ _ _) (congrArg (World.drewN _) (Nat.add_assoc _ _ _))⟩))))
    go_meet
    case rel => exact ⟨_, (true), ns_, H', ⟨by first | omega | exact Nat.le_refl _⟩, ⟨by (with_reducible repeat (first | refine bN40 ?_ _ | refine bD40 ?_ | refine bA40 ?_ _)); exact BK518.out⟩, ⟨by repeat (first | (with_reducible first | exact HB.out | apply below_alloc | apply pw_below_drewN | apply below_drew1 | refine below_set ?_ GE518.out) | exact HB.out)⟩⟩
  case rest =>
   clear HC2
   try clear p2
   try clear c4
   try clear c5
   try clear c7
   try clear hcz10_0
   try clear hcz10_1
   try clear hcz10_2
   try clear hcz8_0
   try clear hcz8_1
   try clear hcz8_2
   try clear hcz9_0
   try clear hcz9_1
   try clear hcz9_2
   try clear hfz10_0
   try clear hfz10_1
   try clear hfz10_2
   try clear hfz8_0
   try clear hfz8_1
   try clear hfz8_2
   try clear hfz9_0
   try clear hfz9_1
   try clear hfz9_2
   obtain ⟨kq, x21_1, rfl, HA, HJ1, BK518, HB⟩ := hcut
   cases kq with
   | zero => exact absurd HA.out (by simp [impl_PlanOk.j0])
   | succ kj1 =>
    have H := HA.out
    clear HA
    simp only [impl_PlanOk.j0] at H
    by_cases c11 : x21_1 = true
    ·subst c11
     have H1 : (some false) = some r := by rw [if_pos rfl] at H; exact H
     clear H
     have H := H1
     clear H1
     obtain rfl := Option.some.inj H
     go_wp2
     repeat (go_quiet (fail); try go_wp2)
     go_ret
     exact ⟨by first | rfl | (simp [errW_none, errW_some] <;> rfl) | (simp [*, errW_none, errW_some] <;> rfl), by repeat (first | (with_reducible first | exact HB.out | apply below_alloc | apply pw_below_drewN | apply below_drew1 | refine below_set ?_ GE518.out) | exact HB.out)⟩
    ·replace c11 := Bool.eq_false_iff.mpr c11
     subst c11
     have H1 : (impl_PlanOk.l0 kj1 l0_2 (l0_2.length : Int) 0 a0_0 a0_1 l0_2) = some r := by rw [if_neg (show ¬ (false = true) by decide)] at H; exact H
     clear H
     have H := H1
     clear H1
     have H' := Aside0.mk H
     clear H
     have hcz12_0 : wc.cell? ⟨gb518, 0, none⟩ = some (.int .i64 a0_0) := (bC40 BK518.out 0).trans rfl
     have hcz12_1 : wc.cell? ⟨gb518, 1, none⟩ = some (.int .i64 a0_1) := (bC40 BK518.out 1).trans rfl
     have hcz12_2 : wc.cell? ⟨gb518, 2, none⟩ = some (.slice A0_2 l0_2.length c0_2) := (bC40 BK518.out 2).trans rfl
     have hfz12_0 := blk_frozen BK518.out 0
     have hfz12_1 := blk_frozen BK518.out 1
     have hfz12_2 := blk_frozen BK518.out 2
     go_wp2
     repeat (go_quiet (fail); try go_wp2)
     go_loopg [25] kj1 (fun kq v25 w' => ∃ (x25_2 : Int), v25 = .int .i64 x25_2 ∧ Aside0 (impl_PlanOk.l0 kq l0_2 (l0_2.length : Int) x25_2 a0_0 a0_1 l0_2 = some r) ∧ Aside0 (kq ≤ kj1) ∧ Aside0 (w'.heap[gb518]? = some (.cells #[.int .i64 a0_0, .int .i64 a0_1, (.slice A0_2 l0_2.length c0_2)] 54 (0, 0))) ∧ Aside0 (Below w.heap.size w w'))
     case atStart => exact ⟨(0), ns_, H', ⟨Nat.le_refl _⟩, ⟨by (with_reducible repeat (first | refine bN40 ?_ _ | refine bD40 ?_ | refine bA40 ?_ _)); exact BK518.out⟩, ⟨by repeat (first | (with_reducible first | exact HB.out | apply below_alloc | apply pw_below_drewN | apply below_drew1 | refine below_set ?_ GE518.out) | exact HB.out)⟩⟩
     case round =>
      clear H'
      try clear c1
      try clear p2
      try clear c4
      try clear c5
      try clear c7
      try clear c11
      try clear hcz10_0
      try clear hcz10_1
      try clear hcz10_2
      try clear hcz12_0
      try clear hcz12_1
      try clear hcz12_2
      try clear hcz8_0
      try clear hcz8_1
      try clear hcz8_2
      try clear hcz9_0
      try clear hcz9_1
      try clear hcz9_2
      try clear hfz10_0
      try clear hfz10_1
      try clear hfz10_2
      try clear hfz12_0
      try clear hfz12_1
      try clear hfz12_2
      try clear hfz8_0
      try clear hfz8_1
      try clear hfz8_2
      try clear hfz9_0
      try clear hfz9_1
      try clear hfz9_2
      try clear p2
      obtain ⟨x25_2, rfl, HA, HK2, BK518, HB⟩ := hrel
      cases gk with
      | zero => exact absurd HA.out (by simp [impl_PlanOk.l0])
      | succ k2 =>
       have H := HA.out
       clear HA
       simp only [impl_PlanOk.l0] at H
       by_cases c13 : x25_2 < (l0_2.length : Int)
       ·rw [if_pos c13] at H
        have c13b0 : decide (x25_2 < (l0_2.length : Int)) = true := decide_eq_true c13
        clear c13
        by_cases c14 : 0 ≤ x25_2
        ·rw [if_pos c14] at H
         have c14b0 : decide (0 ≤ x25_2) = true := decide_eq_true c14
         clear c14
         by_cases c15 : x25_2 < (l0_2.length : Int)
         ·rw [if_pos c15] at H
          have c15b0 : decide (x25_2 < (l0_2.length : Int)) = true := decide_eq_true c15
          clear c15
          have HC16 := Aside0.mk H
          clear H
          have p521 : 0 ≤ (x25_2 : Int) := of_decide_eq_true nx_
          have q521 : x25_2 < (l0_2.length : Int) := of_decide_eq_true nx_
          obtain ⟨ad521, e521, hx521_0, hx521_1, hx521_2, hx521_3, hx521_4⟩ := at_T89 HR0_2.out x25_2 p521 q521
          cases e521
          replace hx521_0 := (HB.out.cell (World.block_lt_of_cell? w _ hx521_0)).trans hx521_0
          replace hx521_1 := (HB.out.cell (World.block_lt_of_cell? w _ hx521_1)).trans hx521_1
          replace hx521_2 := (HB.out.cell (World.block_lt_of_cell? w _ hx521_2)).trans hx521_2
          replace hx521_3 := (HB.out.cell (World.block_lt_of_cell? w _ hx521_3)).trans hx521_3
          replace hx521_4 := (HB.out.cell (World.block_lt_of_cell? w _ hx521_4)).trans hx521_4
          replace p521 := eq_true p521
          replace q521 := eq_true q521
          go_upto_region 6 with (first | ((with_reducible refine gate_dst (N := 4) rfl ?_); (try (refine gate_guard (by rfl) ?_; dsimp only)); refine box_event ?hg (N := 4) ?hd (cs := #[.int .i64 0, .int .i64 0, .int .i64 0, .int .i64 0, .int .i64 0]) (t := 89) ?hr ?_; (case hd => rfl); (case hg => rfl); (case hr => first | (go_simp; done) | (go_simp; rfl)); intro gb522 hg w17 hbox hb; have n0_ := Aside0.mk (bB40 (g := gb518) (o := .cells #[.int .i64 a0_0, .int .i64 a0_1, .slice (some ad521) l0_2.length c0_2] 54 (0, 0)) (nb_ BK518.out) hb); have n1_ := Aside0.mk (eS40 (ne_ HB.out) hb); have n2_ := Aside0.mk (hbox); have n3_ := Aside0.mk ((by rw [hg]; exact (below_size (ne_ HB.out)) : w.heap.size ≤ gb522)); have n4_ := Aside0.mk ((by rw [hg]; exact (below_size (ne_ HB.out)) : w.heap.size ≤ gb522)); have n5_ := Aside0.mk ((by rw [hg]; exact Nat.ne_of_lt (blk_lt (g := gb518) (o := .cells #[.int .i64 a0_0, .int .i64 a0_1, .slice (some ad521) l0_2.length c0_2] 54 (0, 0)) (nb_ BK518.out)) : gb518 ≠ gb522)); have n6_ := Aside0.mk ((by rw [hg]; exact Nat.ne_of_gt (blk_lt (g := gb518) (o := .cells #[.int .i64 a0_0, .int .i64 a0_1, .slice (some ad521) l0_2.length c0_2] 54 (0, 0)) (nb_ BK518.out)) : gb522 ≠ gb518)); clear BK518; clear HB; have BK518 := n0_; have HB := n1_; have BK522 := n2_; have GW522 := n3_; have GE522 := n4_; have NB518_522 := n5_; have NB522_518 := n6_; clear n0_ n1_ n2_ n3_ n4_ n5_ n6_; clear hb hbox hg; have hnb18 := NB522_518.out; have hnc18 := NB518_522.out; have hcz19_0 : w17.cell? ⟨gb522, 0, none⟩ = some (.int .i64 0) := (bC40 BK522.out 0).trans rfl; have hcz19_1 : w17.cell? ⟨gb522, 1, none⟩ = some (.int .i64 0) := (bC40 BK522.out 1).trans rfl; have hcz19_2 : w17.cell? ⟨gb522, 2, none⟩ = some (.int .i64 0) := (bC40 BK522.out 2).trans rfl; have hcz19_3 : w17.cell? ⟨gb522, 3, none⟩ = some (.int .i64 0) := (bC40 BK522.out 3).trans rfl; have hcz19_4 : w17.cell? ⟨gb522, 4, none⟩ = some (.int .i64 0) := (bC40 BK522.out 4).trans rfl; have hfz19_0 := blk_frozen BK522.out 0; have hfz19_1 := blk_frozen BK522.out 1; have hfz19_2 := blk_frozen BK522.out 2; have hfz19_3 := blk_frozen BK522.out 3; have hfz19_4 := blk_frozen BK522.out 4))
          repeat (go_quiet (first | ((with_reducible refine gate_dst (N := 4) rfl ?_); (try (refine gate_guard (by rfl) ?_; dsimp only)); refine box_event ?hg (N := 4) ?hd (cs := #[.int .i64 0, .int .i64 0, .int .i64 0, .int .i64 0, .int .i64 0]) (t := 89) ?hr ?_; (case hd => rfl); (case hg => rfl); (case hr => first | (go_simp; done) | (go_simp; rfl)); intro gb522 hg w17 hbox hb; have n0_ := Aside0.mk (bB40 (g := gb518) (o := .cells #[.int .i64 a0_0, .int .i64 a0_1, .slice (some ad521) l0_2.length c0_2] 54 (0, 0)) (nb_ BK518.out) hb); have n1_ := Aside0.mk (eS40 (ne_ HB.out) hb); have n2_ := Aside0.mk (hbox); have n3_ := Aside0.mk ((by rw [hg]; exact (below_size (ne_ HB.out)) : w.heap.size ≤ gb522)); have n4_ := Aside0.mk ((by rw [hg]; exact (below_size (ne_ HB.out)) : w.heap.size ≤ gb522)); have n5_ := Aside0.mk ((by rw [hg]; exact Nat.ne_of_lt (blk_lt (g := gb518) (o := .cells #[.int .i64 a0_0, .int .i64 a0_1, .slice (some ad521) l0_2.length c0_2] 54 (0, 0)) (nb_ BK518.out)) : gb518 ≠ gb522)); have n6_ := Aside0.mk ((by rw [hg]; exact Nat.ne_of_gt (blk_lt (g := gb518) (o := .cells #[.int .i64 a0_0, .int .i64 a0_1, .slice (some ad521) l0_2.length c0_2] 54 (0, 0)) (nb_ BK518.out)) : gb522 ≠ gb518)); clear BK518; clear HB; have BK518 := n0_; have HB := n1_; have BK522 := n2_; have GW522 := n3_; have GE522 := n4_; have NB518_522 := n5_; have NB522_518 := n6_; clear n0_ n1_ n2_ n3_ n4_ n5_ n6_; clear hb hbox hg; have hnb18 := NB522_518.out; have hnc18 := NB518_522.out; have hcz19_0 : w17.cell? ⟨gb522, 0, none⟩ = some (.int .i64 0) := (bC40 BK522.out 0).trans rfl; have hcz19_1 : w17.cell? ⟨gb522, 1, none⟩ = some (.int .i64 0) := (bC40 BK522.out 1).trans rfl; have hcz19_2 : w17.cell? ⟨gb522, 2, none⟩ = some (.int .i64 0) := (bC40 BK522.out 2).trans rfl; have hcz19_3 : w17.cell? ⟨gb522, 3, none⟩ = some (.int .i64 0) := (bC40 BK522.out 3).trans rfl; have hcz19_4 : w17.cell? ⟨gb522, 4, none⟩ = some (.int .i64 0) := (bC40 BK522.out 4).trans rfl; have hfz19_0 := blk_frozen BK522.out 0; have hfz19_1 := blk_frozen BK522.out 1; have hfz19_2 := blk_frozen BK522.out 2; have hfz19_3 := blk_frozen BK522.out 3; have hfz19_4 := blk_frozen BK522.out 4)); go_upto_region 6 with (first | ((with_reducible refine gate_dst (N := 4) rfl ?_); (try (refine gate_guard (by rfl) ?_; dsimp only)); refine box_event ?hg (N := 4) ?hd (cs := #[.int .i64 0, .int .i64 0, .int .i64 0, .int .i64 0, .int .i64 0]) (t := 89) ?hr ?_; (case hd => rfl); (case hg => rfl); (case hr => first | (go_simp; done) | (go_simp; rfl)); intro gb522 hg w17 hbox hb; have n0_ := Aside0.mk (bB40 (g := gb518) (o := .cells #[.int .i64 a0_0, .int .i64 a0_1, .slice (some ad521) l0_2.length c0_2] 54 (0, 0)) (nb_ BK518.out) hb); have n1_ := Aside0.mk (eS40 (ne_ HB.out) hb); have n2_ := Aside0.mk (hbox); have n3_ := Aside0.mk ((by rw [hg]; exact (below_size (ne_ HB.out)) : w.heap.size ≤ gb522)); have n4_ := Aside0.mk ((by rw [hg]; exact (below_size (ne_ HB.out)) : w.heap.size ≤ gb522)); have n5_ := Aside0.mk ((by rw [hg]; exact Nat.ne_of_lt (blk_lt (g := gb518) (o := .cells #[.int .i64 a0_0, .int .i64 a0_1, .slice (some ad521) l0_2.length c0_2] 54 (0, 0)) (nb_ BK518.out)) : gb518 ≠ gb522)); have n6_ := Aside0.mk ((by rw [hg]; exact Nat.ne_of_gt (blk_lt (g := gb518) (o := .cells #[.int .i64 a0_0, .int .i64 a0_1, .slice (some ad521) l0_2.length c0_2] 54 (0, 0)) (nb_ BK518.out)) : gb522 ≠ gb518)); clear BK518; clear HB; have BK518 := n0_; have HB := n1_; have BK522 := n2_; have GW522 := n3_; have GE522 := n4_; have NB518_522 := n5_; have NB522_518 := n6_; clear n0_ n1_ n2_ n3_ n4_ n5_ n6_; clear hb hbox hg; have hnb18 := NB522_518.out; have hnc18 := NB518_522.out; have hcz19_0 : w17.cell? ⟨gb522, 0, none⟩ = some (.int .i64 0) := (bC40 BK522.out 0).trans rfl; have hcz19_1 : w17.cell? ⟨gb522, 1, none⟩ = some (.int .i64 0) := (bC40 BK522.out 1).trans rfl; have hcz19_2 : w17.cell? ⟨gb522, 2, none⟩ = some (.int .i64 0) := (bC40 BK522.out 2).trans rfl; have hcz19_3 : w17.cell? ⟨gb522, 3, none⟩ = some (.int .i64 0) := (bC40 BK522.out 3).trans rfl; have hcz19_4 : w17.cell? ⟨gb522, 4, none⟩ = some (.int .i64 0) := (bC40 BK522.out 4).trans rfl; have hfz19_0 := blk_frozen BK522.out 0; have hfz19_1 := blk_frozen BK522.out 1; have hfz19_2 := blk_frozen BK522.out 2; have hfz19_3 := blk_frozen BK522.out 3; have hfz19_4 := blk_frozen BK522.out 4)))
          (try simp only [Act.put, List.setIfInBounds_toArray, List.set_cons_zero, List.set_cons_succ])
          go_cut [63] (fun v63 wc => ∃ (kq : Nat) (x63_15 : Bool), v63 = .bool x63_15 ∧ Aside0 (impl_PlanOk.j2 kq x25_2 l0_2 (l0_2.length : Int) x25_2 x63_15 a0_0 a0_1 l0_2 ((rd_T89 l0_2 x25_2).f0) ((rd_T89 l0_2 x25_2).f1) ((rd_T89 l0_2 x25_2).f2) ((rd_T89 l0_2 x25_2).f3) ((rd_T89 l0_2 x25_2).f4) = some r) ∧ Aside0 (kq ≤ k2) ∧ Aside0 (wc.heap[gb518]? = some (.cells #[.int .i64 a0_0, .int .i64 a0_1, (.slice (some ad521) l0_2.length c0_2)] 54 (0, 0))) ∧ Aside0 (wc.heap[gb522]? = some (.cells #[.int .i64 ((rd_T89 l0_2 x25_2).f0), .int .i64 ((rd_T89 l0_2 x25_2).f1), .int .i64 ((rd_T89 l0_2 x25_2).f2), .int .i64 ((rd_T89 l0_2 x25_2).f3), .int .i64 ((rd_T89 l0_2 x25_2).f4)] 89 (0, 0))) ∧ Aside0 (Below w.heap.size w wc))
          case first =>
           have H := HC16.out
           clear HC16
           replace H := Option.bind_eq_some_iff.mp H
           obtain ⟨t523, A200, H⟩ := H
           replace H : (if t523 = true then ((impl_Plan_stop.f a0_0 a0_1 l0_2 ((rd_T89 l0_2 x25_2).f1)).bind fun t524 => (if t524 = true then (if ((rd_T89 l0_2 x25_2).f0) = ((rd_T89 l0_2 x25_2).f1) then (impl_PlanOk.j2 k2 x25_2 l0_2 (l0_2.length : Int) x25_2 true a0_0 a0_1 l0_2 ((rd_T89 l0_2 x25_2).f0) ((rd_T89 l0_2 x25_2).f1) ((rd_T89 l0_2 x25_2).f2) ((rd_T89 l0_2 x25_2).f3) ((rd_T89 l0_2 x25_2).f4)) else ((impl_Step_valid.f ((rd_T89 l0_2 x25_2).f2) ((rd_T89 l0_2 x25_2).f3)).bind fun t525 => (if t525 = true then ((impl_within.f ((rd_T89 l0_2 x25_2).f4) 0 5).bind fun t526 => (impl_PlanOk.j2 k2 x25_2 l0_2 (l0_2.length : Int) x25_2 (!t526) a0_0 a0_1 l0_2 ((rd_T89 l0_2 x25_2).f0) ((rd_T89 l0_2 x25_2).f1) ((rd_T89 l0_2 x25_2).f2) ((rd_T89 l0_2 x25_2).f3) ((rd_T89 l0_2 x25_2).f4))) else (impl_PlanOk.j2 k2 x25_2 l0_2 (l0_2.length : Int) x25_2 true a0_0 a0_1 l0_2 ((rd_T89 l0_2 x25_2).f0) ((rd_T89 l0_2 x25_2).f1) ((rd_T89 l0_2 x25_2).f2) ((rd_T89 l0_2 x25_2).f3) ((rd_T89 l0_2 x25_2).f4))))) else (impl_PlanOk.j2 k2 x25_2 l0_2 (l0_2.length : Int) x25_2 true a0_0 a0_1 l0_2 ((rd_T89 l0_2 x25_2).f0) ((rd_T89 l0_2 x25_2).f1) ((rd_T89 l0_2 x25_2).f2) ((rd_T89 l0_2 x25_2).f3) ((rd_T89 l0_2 x25_2).f4)))) else (impl_PlanOk.j2 k2 x25_2 l0_2 (l0_2.length : Int) x25_2 true a0_0 a0_1 l0_2 ((rd_T89 l0_2 x25_2).f0) ((rd_T89 l0_2 x25_2).f1) ((rd_T89 l0_2 x25_2).f2) ((rd_T89 l0_2 x25_2).f3) ((rd_T89 l0_2 x25_2).f4))) = some r := H
           have A20 := Aside0.mk A200
           clear A200
           by_cases c21 : t523 = true
           ·subst c21
            have H1 : ((impl_Plan_stop.f a0_0 a0_1 l0_2 ((rd_T89 l0_2 x25_2).f1)).bind fun t524 => (if t524 = true then (if ((rd_T89 l0_2 x25_2).f0) = ((rd_T89 l0_2 x25_2).f1) then (impl_PlanOk.j2 k2 x25_2 l0_2 (l0_2.length : Int) x25_2 true a0_0 a0_1 l0_2 ((rd_T89 l0_2 x25_2).f0) ((rd_T89 l0_2 x25_2).f1) ((rd_T89 l0_2 x25_2).f2) ((rd_T89 l0_2 x25_2).f3) ((rd_T89 l0_2 x25_2).f4)) else ((impl_Step_valid.f ((rd_T89 l0_2 x25_2).f2) ((rd_T89 l0_2 x25_2).f3)).bind fun t525 => (if t525 = true then ((impl_within.f ((rd_T89 l0_2 x25_2).f4) 0 5).bind fun t526 => (impl_PlanOk.j2 k2 x25_2 l0_2 (l0_2.length : Int) x25_2 (!t526) a0_0 a0_1 l0_2 ((rd_T89 l0_2 x25_2).f0) ((rd_T89 l0_2 x25_2).f1) ((rd_T89 l0_2 x25_2).f2) ((rd_T89 l0_2 x25_2).f3) ((rd_T89 l0_2 x25_2).f4))) else (impl_PlanOk.j2 k2 x25_2 l0_2 (l0_2.length : Int) x25_2 true a0_0 a0_1 l0_2 ((rd_T89 l0_2 x25_2).f0) ((rd_T89 l0_2 x25_2).f1) ((rd_T89 l0_2 x25_2).f2) ((rd_T89 l0_2 x25_2).f3) ((rd_T89 l0_2 x25_2).f4))))) else (impl_PlanOk.j2 k2 x25_2 l0_2 (l0_2.length : Int) x25_2 true a0_0 a0_1 l0_2 ((rd_T89 l0_2 x25_2).f0) ((rd_T89 l0_2 x25_2).f1) ((rd_T89 l0_2 x25_2).f2) ((rd_T89 l0_2 x25_2).f3) ((rd_T89 l0_2 x25_2).f4)))) = some r := by rw [if_pos rfl] at H; exact H
            clear H
            have H := H1
            clear H1
            replace H := Option.bind_eq_some_iff.mp H
            obtain ⟨t524, A220, H⟩ := H
            replace H : (if t524 = true then (if ((rd_T89 l0_2 x25_2).f0) = ((rd_T89 l0_2 x25_2).f1) then (impl_PlanOk.j2 k2 x25_2 l0_2 (l0_2.length : Int) x25_2 true a0_0 a0_1 l0_2 ((rd_T89 l0_2 x25_2).f0) ((rd_T89 l0_2 x25_2).f1) ((rd_T89 l0_2 x25_2).f2) ((rd_T89 l0_2 x25_2).f3) ((rd_T89 l0_2 x25_2).f4)) else ((impl_Step_valid.f ((rd_T89 l0_2 x25_2).f2) ((rd_T89 l0_2 x25_2).f3)).bind fun t525 => (if t525 = true then ((impl_within.f ((rd_T89 l0_2 x25_2).f4) 0 5).bind fun t526 => (impl_PlanOk.j2 k2 x25_2 l0_2 (l0_2.length : Int) x25_2 (!t526) a0_0 a0_1 l0_2 ((rd_T89 l0_2 x25_2).f0) ((rd_T89 l0_2 x25_2).f1) ((rd_T89 l0_2 x25_2).f2) ((rd_T89 l0_2 x25_2).f3) ((rd_T89 l0_2 x25_2).f4))) else (impl_PlanOk.j2 k2 x25_2 l0_2 (l0_2.length : Int) x25_2 true a0_0 a0_1 l0_2 ((rd_T89 l0_2 x25_2).f0) ((rd_T89 l0_2 x25_2).f1) ((rd_T89 l0_2 x25_2).f2) ((rd_T89 l0_2 x25_2).f3) ((rd_T89 l0_2 x25_2).f4))))) else (impl_PlanOk.j2 k2 x25_2 l0_2 (l0_2.length : Int) x25_2 true a0_0 a0_1 l0_2 ((rd_T89 l0_2 x25_2).f0) ((rd_T89 l0_2 x25_2).f1) ((rd_T89 l0_2 x25_2).f2) ((rd_T89 l0_2 x25_2).f3) ((rd_T89 l0_2 x25_2).f4))) = some r := H
            have A22 := Aside0.mk A220
            clear A220
            by_cases c23 : t524 = true
            ·subst c23
             have H1 : (if ((rd_T89 l0_2 x25_2).f0) = ((rd_T89 l0_2 x25_2).f1) then (impl_PlanOk.j2 k2 x25_2 l0_2 (l0_2.length : Int) x25_2 true a0_0 a0_1 l0_2 ((rd_T89 l0_2 x25_2).f0) ((rd_T89 l0_2 x25_2).f1) ((rd_T89 l0_2 x25_2).f2) ((rd_T89 l0_2 x25_2).f3) ((rd_T89 l0_2 x25_2).f4)) else ((impl_Step_valid.f ((rd_T89 l0_2 x25_2).f2) ((rd_T89 l0_2 x25_2).f3)).bind fun t525 => (if t525 = true then ((impl_within.f ((rd_T89 l0_2 x25_2).f4) 0 5).bind fun t526 => (impl_PlanOk.j2 k2 x25_2 l0_2 (l0_2.length : Int) x25_2 (!t526) a0_0 a0_1 l0_2 ((rd_T89 l0_2 x25_2).f0) ((rd_T89 l0_2 x25_2).f1) ((rd_T89 l0_2 x25_2).f2) ((rd_T89 l0_2 x25_2).f3) ((rd_T89 l0_2 x25_2).f4))) else (impl_PlanOk.j2 k2 x25_2 l0_2 (l0_2.length : Int) x25_2 true a0_0 a0_1 l0_2 ((rd_T89 l0_2 x25_2).f0) ((rd_T89 l0_2 x25_2).f1) ((rd_T89 l0_2 x25_2).f2) ((rd_T89 l0_2 x25_2).f3) ((rd_T89 l0_2 x25_2).f4))))) = some r := by rw [if_pos rfl] at H; exact H
             clear H
             have H := H1
             clear H1
             by_cases c24 : ((rd_T89 l0_2 x25_2).f0) = ((rd_T89 l0_2 x25_2).f1)
             ·rw [if_pos c24] at H
              have c24b0 : (((rd_T89 l0_2 x25_2).f0) == ((rd_T89 l0_2 x25_2).f1)) = true := beq_iff_eq.mpr c24
              have c24b1 : (((rd_T89 l0_2 x25_2).f0) != ((rd_T89 l0_2 x25_2).f1)) = false := bne_eq_false_iff_eq.mpr c24
              clear c24
              (first | rw [c24b0] | (simp only [i64_w, i32_w]; rw [c24b0]) | skip)
              have H' := Aside0.mk H
              clear H
              have hnb25 := NB518_522.out
              have hnc25 := NB522_518.out
              have hcz26_0 : w17.cell? ⟨gb518, 0, none⟩ = some (.int .i64 a0_0) := (bC40 BK518.out 0).trans rfl
              have hcz26_1 : w17.cell? ⟨gb518, 1, none⟩ = some (.int .i64 a0_1) := (bC40 BK518.out 1).trans rfl
              have hcz26_2 : w17.cell? ⟨gb518, 2, none⟩ = some (.slice (some ad521) l0_2.length c0_2) := (bC40 BK518.out 2).trans rfl
              have hfz26_0 := blk_frozen BK518.out 0
              have hfz26_1 := blk_frozen BK518.out 1
              have hfz26_2 := blk_frozen BK518.out 2
              have hcz27_0 : w17.cell? ⟨gb522, 0, none⟩ = some (.int .i64 0) := (bC40 BK522.out 0).trans rfl
              have hcz27_1 : w17.cell? ⟨gb522, 1, none⟩ = some (.int .i64 0) := (bC40 BK522.out 1).trans rfl
              have hcz27_2 : w17.cell? ⟨gb522, 2, none⟩ = some (.int .i64 0) := (bC40 BK522.out 2).trans rfl
              have hcz27_3 : w17.cell? ⟨gb522, 3, none⟩ = some (.int .i64 0) := (bC40 BK522.out 3).trans rfl
              have hcz27_4 : w17.cell? ⟨gb522, 4, none⟩ = some (.int .i64 0) := (bC40 BK522.out 4).trans rfl
              have hfz27_0 := blk_frozen BK522.out 0
              have hfz27_1 := blk_frozen BK522.out 1
              have hfz27_2 := blk_frozen BK522.out 2
              have hfz27_3 := blk_frozen BK522.out 3
              have hfz27_4 := blk_frozen BK522.out 4
              go_wp2_with (first | (go_at_call 78; (with_reducible refine (impl_Plan_stop.calls a0_0 a0_1 _ _ l0_2 ((rd_T89 l0_2 x25_2).f0) true _ ?side1 ?side2 A20.out).mono ?_); (case side1 => exact Kd.C_below HR0_2.out (ne_ HB.out)); (case side2 => exact HC0_2.out); rintro e w28 ⟨rfl, hb⟩; have n0_ := Aside0.mk (bB40 (g := gb518) (o := .cells #[.int .i64 a0_0, .int .i64 a0_1, .slice (some ad521) l0_2.length c0_2] 54 (0, 0)) (nbf_ BK518.out) hb); have n1_ := Aside0.mk (bB40 (g := gb522) (o := .cells #[.int .i64 ((rd_T89 l0_2 x25_2).f0), .int .i64 ((rd_T89 l0_2 x25_2).f1), .int .i64 ((rd_T89 l0_2 x25_2).f2), .int .i64 ((rd_T89 l0_2 x25_2).f3), .int .i64 ((rd_T89 l0_2 x25_2).f4)] 89 (0, 0)) (by (with_reducible repeat (first | refine bN40 ?_ _ | refine bD40 ?_ | refine bA40 ?_ _)); refine blk_put (cs := #[.int .i64 ((rd_T89 l0_2 x25_2).f0), .int .i64 ((rd_T89 l0_2 x25_2).f1), .int .i64 ((rd_T89 l0_2 x25_2).f2), .int .i64 ((rd_T89 l0_2 x25_2).f3), .int .i64 0]) ?_ 4 _ rfl; (with_reducible repeat (first | refine bN40 ?_ _ | refine bD40 ?_ | refine bA40 ?_ _)); refine blk_put (cs := #[.int .i64 ((rd_T89 l0_2 x25_2).f0), .int .i64 ((rd_T89 l0_2 x25_2).f1), .int .i64 ((rd_T89 l0_2 x25_2).f2), .int .i64 0, .int .i64 0]) ?_ 3 _ rfl; (with_reducible repeat (first | refine bN40 ?_ _ | refine bD40 ?_ | refine bA40 ?_ _)); refine blk_put (cs := #[.int .i64 ((rd_T89 l0_2 x25_2).f0), .int .i64 ((rd_T89 l0_2 x25_2).f1), .int .i64 0, .int .i64 0, .int .i64 0]) ?_ 2 _ rfl; (with_reducible repeat (first | refine bN40 ?_ _ | refine bD40 ?_ | refine bA40 ?_ _)); refine blk_put (cs := #[.int .i64 ((rd_T89 l0_2 x25_2).f0), .int .i64 0, .int .i64 0, .int .i64 0, .int .i64 0]) ?_ 1 _ rfl; (with_reducible repeat (first | refine bN40 ?_ _ | refine bD40 ?_ | refine bA40 ?_ _)); refine blk_put (cs := #[.int .i64 0, .int .i64 0, .int .i64 0, .int .i64 0, .int .i64 0]) ?_ 0 _ rfl; (with_reducible repeat (first | refine bN40 ?_ _ | refine bD40 ?_ | refine bA40 ?_ _)); exact BK522.out) hb); have n2_ := Aside0.mk (eS40 (ne_ HB.out) hb); clear BK518; clear BK522; clear HB; have BK518 := n0_; have BK522 := n1_; have HB := n2_; clear n0_ n1_ n2_; (try clear hb); (try clear hb2); (try clear hk); (try clear hi); have hcz29_0 : w28.cell? ⟨gb518, 0, none⟩ = some (.int .i64 a0_0) := (bC40 BK518.out 0).trans rfl; have hcz29_1 : w28.cell? ⟨gb518, 1, none⟩ = some (.int .i64 a0_1) := (bC40 BK518.out 1).trans rfl; have hcz29_2 : w28.cell? ⟨gb518, 2, none⟩ = some (.slice (some ad521) l0_2.length c0_2) := (bC40 BK518.out 2).trans rfl; have hfz29_0 := blk_frozen BK518.out 0; have hfz29_1 := blk_frozen BK518.out 1; have hfz29_2 := blk_frozen BK518.out 2; have hcz30_0 : w28.cell? ⟨gb522, 0, none⟩ = some (.int .i64 ((rd_T89 l0_2 x25_2).f0)) := (bC40 BK522.out 0).trans rfl; have hcz30_1 : w28.cell? ⟨gb522, 1, none⟩ = some (.int .i64 ((rd_T89 l0_2 x25_2).f1)) := (bC40 BK522.out 1).trans rfl; have hcz30_2 : w28.cell? ⟨gb522, 2, none⟩ = some (.int .i64 ((rd_T89 l0_2 x25_2).f2)) := (bC40 BK522.out 2).trans rfl; have hcz30_3 : w28.cell? ⟨gb522, 3, none⟩ = some (.int .i64 ((rd_T89 l0_2 x25_2).f3)) := (bC40 BK522.out 3).trans rfl; have hcz30_4 : w28.cell? ⟨gb522, 4, none⟩ = some (.int .i64 ((rd_T89 l0_2 x25_2).f4)) := (bC40 BK522.out 4).trans rfl; have hfz30_0 := blk_frozen BK522.out 0; have hfz30_1 := blk_frozen BK522.out 1; have hfz30_2 := blk_frozen BK522.out 2; have hfz30_3 := blk_frozen BK522.out 3; have hfz30_4 := blk_frozen BK522.out 4) | (go_at_call 78; (with_reducible refine (impl_Plan_stop.calls a0_0 a0_1 _ _ l0_2 ((rd_T89 l0_2 x25_2).f1) true _ ?side1 ?side2 A22.out).mono ?_); (case side1 => exact nc_ (Kd.C_below HR0_2.out HB.out)); (case side2 => exact HC0_2.out); rintro e w31 ⟨rfl, hb⟩; have n0_ := Aside0.mk (bB40 (g := gb518) (o := .cells #[.int .i64 a0_0, .int .i64 a0_1, .slice (some ad521) l0_2.length c0_2] 54 (0, 0)) (nb_ BK518.out) hb); have n1_ := Aside0.mk (bB40 (g := gb522) (o := .cells #[.int .i64 ((rd_T89 l0_2 x25_2).f0), .int .i64 ((rd_T89 l0_2 x25_2).f1), .int .i64 ((rd_T89 l0_2 x25_2).f2), .int .i64 ((rd_T89 l0_2 x25_2).f3), .int .i64 ((rd_T89 l0_2 x25_2).f4)] 89 (0, 0)) (nb_ BK522.out) hb); have n2_ := Aside0.mk (eS40 (ne_ HB.out) hb); clear BK518; clear BK522; clear HB; have BK518 := n0_; have BK522 := n1_; have HB := n2_; clear n0_ n1_ n2_; (try clear hb); (try clear hb2); (try clear hk); (try clear hi); have hcz32_0 : w31.cell? ⟨gb522, 0, none⟩ = some (.int .i64 ((rd_T89 l0_2 x25_2).f0)) := (bC40 BK522.out 0).trans rfl; have hcz32_1 : w31.cell? ⟨gb522, 1, none⟩ = some (.int .i64 ((rd_T89 l0_2 x25_2).f1)) := (bC40 BK522.out 1).trans rfl; have hcz32_2 : w31.cell? ⟨gb522, 2, none⟩ = some (.int .i64 ((rd_T89 l0_2 x25_2).f2)) := (bC40 BK522.out 2).trans rfl; have hcz32_3 : w31.cell? ⟨gb522, 3, none⟩ = some (.int .i64 ((rd_T89 l0_2 x25_2).f3)) := (bC40 BK522.out 3).trans rfl; have hcz32_4 : w31.cell? ⟨gb522, 4, none⟩ = some (.int .i64 ((rd_T89 l0_2 x25_2).f4)) := (bC40 BK522.out 4).trans rfl; have hfz32_0 := blk_frozen BK522.out 0; have hfz32_1 := blk_frozen BK522.out 1; have hfz32_2 := blk_frozen BK522.out 2; have hfz32_3 := blk_frozen BK522.out 3; have hfz32_4 := blk_frozen BK522.out 4))
              repeat (go_quiet (first | (go_at_call 78; (with_reducible refine (impl_Plan_stop.calls a0_0 a0_1 _ _ l0_2 ((rd_T89 l0_2 x25_2).f0) true _ ?side1 ?side2 A20.out).mono ?_); (case side1 => exact Kd.C_below HR0_2.out (ne_ HB.out)); (case side2 => exact HC0_2.out); rintro e w28 ⟨rfl, hb⟩; have n0_ := Aside0.mk (bB40 (g := gb518) (o := .cells #[.int .i64 a0_0, .int .i64 a0_1, .slice (some ad521) l0_2.length c0_2] 54 (0, 0)) (nbf_ BK518.out) hb); have n1_ := Aside0.mk (bB40 (g := gb522) (o := .cells #[.int .i64 ((rd_T89 l0_2 x25_2).f0), .int .i64 ((rd_T89 l0_2 x25_2).f1), .int .i64 ((rd_T89 l0_2 x25_2).f2), .int .i64 ((rd_T89 l0_2 x25_2).f3), .int .i64 ((rd_T89 l0_2 x25_2).f4)] 89 (0, 0)) (by (with_reducible repeat (first | refine bN40 ?_ _ | refine bD40 ?_ | refine bA40 ?_ _)); refine blk_put (cs := #[.int .i64 ((rd_T89 l0_2 x25_2).f0), .int .i64 ((rd_T89 l0_2 x25_2).f1), .int .i64 ((rd_T89 l0_2 x25_2).f2), .int .i64 ((rd_T89 l0_2 x25_2).f3), .int .i64 0]) ?_ 4 _ rfl; (with_reducible repeat (first | refine bN40 ?_ _ | refine bD40 ?_ | refine bA40 ?_ _)); refine blk_put (cs := #[.int .i64 ((rd_T89 l0_2 x25_2).f0), .int .i64 ((rd_T89 l0_2 x25_2).f1), .int .i64 ((rd_T89 l0_2 x25_2).f2), .int .i64 0, .int .i64 0]) ?_ 3 _ rfl; (with_reducible repeat (first | refine bN40 ?_ _ | refine bD40 ?_ | refine bA40 ?_ _)); refine blk_put (cs := #[.int .i64 ((rd_T89 l0_2 x25_2).f0), .int .i64 ((rd_T89 l0_2 x25_2).f1), .int .i64 0, .int .i64 0, .int .i64 0]) ?_ 2 _ rfl; (with_reducible repeat (first | refine bN40 ?_ _ | refine bD40 ?_ | refine bA40 ?_ _)); refine blk_put (cs := #[.int .i64 ((rd_T89 l0_2 x25_2).f0), .int .i64 0, .int .i64 0, .int .i64 0, .int .i64 0]) ?_ 1 _ rfl; (with_reducible repeat (first | refine bN40 ?_ _ | refine bD40 ?_ | refine bA40 ?_ _)); refine blk_put (cs := #[.int .i64 0, .int .i64 0, .int .i64 0, .int .i64 0, .int .i64 0]) ?_ 0 _ rfl; (with_reducible repeat (first | refine bN40 ?_ _ | refine bD40 ?_ | refine bA40 ?_ _)); exact BK522.out) hb); have n2_ := Aside0.mk (eS40 (ne_ HB.out) hb); clear BK518; clear BK522; clear HB; have BK518 := n0_; have BK522 := n1_; have HB := n2_; clear n0_ n1_ n2_; (try clear hb); (try clear hb2); (try clear hk); (try clear hi); have hcz29_0 : w28.cell? ⟨gb518, 0, none⟩ = some (.int .i64 a0_0) := (bC40 BK518.out 0).trans rfl; have hcz29_1 : w28.cell? ⟨gb518, 1, none⟩ = some (.int .i64 a0_1) := (bC40 BK518.out 1).trans rfl; have hcz29_2 : w28.cell? ⟨gb518, 2, none⟩ = some (.slice (some ad521) l0_2.length c0_2) := (bC40 BK518.out 2).trans rfl; have hfz29_0 := blk_frozen BK518.out 0; have hfz29_1 := blk_frozen BK518.out 1; have hfz29_2 := blk_frozen BK518.out 2; have hcz30_0 : w28.cell? ⟨gb522, 0, none⟩ = some (.int .i64 ((rd_T89 l0_2 x25_2).f0)) := (bC40 BK522.out 0).trans rfl; have hcz30_1 : w28.cell? ⟨gb522, 1, none⟩ = some (.int .i64 ((rd_T89 l0_2 x25_2).f1)) := (bC40 BK522.out 1).trans rfl; have hcz30_2 : w28.cell? ⟨gb522, 2, none⟩ = some (.int .i64 ((rd_T89 l0_2 x25_2).f2)) := (bC40 BK522.out 2).trans rfl; have hcz30_3 : w28.cell? ⟨gb522, 3, none⟩ = some (.int .i64 ((rd_T89 l0_2 x25_2).f3)) := (bC40 BK522.out 3).trans rfl; have hcz30_4 : w28.cell? ⟨gb522, 4, none⟩ = some (.int .i64 ((rd_T89 l0_2 x25_2).f4)) := (bC40 BK522.out 4).trans rfl; have hfz30_0 := blk_frozen BK522.out 0; have hfz30_1 := blk_frozen BK522.out 1; have hfz30_2 := blk_frozen BK522.out 2; have hfz30_3 := blk_frozen BK522.out 3; have hfz30_4 := blk_frozen BK522.out 4) | (go_at_call 78; (with_reducible refine (impl_Plan_stop.calls a0_0 a0_1 _ _ l0_2 ((rd_T89 l0_2 x25_2).f1) true _ ?side1 ?side2 A22.out).mono ?_); (case side1 => exact nc_ (Kd.C_below HR0_2.out HB.out)); (case side2 => exact HC0_2.out); rintro e w31 ⟨rfl, hb⟩; have n0_ := Aside0.mk (bB40 (g := gb518) (o := .cells #[.int .i64 a0_0, .int .i64 a0_1, .slice (some ad521) l0_2.length c0_2] 54 (0, 0)) (nb_ BK518.out) hb); have n1_ := Aside0.mk (bB40 (g := gb522) (o := .cells #[.int .i64 ((rd_T89 l0_2 x25_2).f0), .int .i64 ((rd_T89 l0_2 x25_2).f1), .int .i64 ((rd_T89 l0_2 x25_2).f2), .int .i64 ((rd_T89 l0_2 x25_2).f3), .int .i64 ((rd_T89 l0_2 x25_2).f4)] 89 (0, 0)) (nb_ BK522.out) hb); have n2_ := Aside0.mk (eS40 (ne_ HB.out) hb); clear BK518; clear BK522; clear HB; have BK518 := n0_; have BK522 := n1_; have HB := n2_; clear n0_ n1_ n2_; (try clear hb); (try clear hb2); (try clear hk); (try clear hi); have hcz32_0 : w31.cell? ⟨gb522, 0, none⟩ = some (.int .i64 ((rd_T89 l0_2 x25_2).f0)) := (bC40 BK522.out 0).trans rfl; have hcz32_1 : w31.cell? ⟨gb522, 1, none⟩ = some (.int .i64 ((rd_T89 l0_2 x25_2).f1)) := (bC40 BK522.out 1).trans rfl; have hcz32_2 : w31.cell? ⟨gb522, 2, none⟩ = some (.int .i64 ((rd_T89 l0_2 x25_2).f2)) := (bC40 BK522.out 2).trans rfl; have hcz32_3 : w31.cell? ⟨gb522, 3, none⟩ = some (.int .i64 ((rd_T89 l0_2 x25_2).f3)) := (bC40 BK522.out 3).trans rfl; have hcz32_4 : w31.cell? ⟨gb522, 4, none⟩ = some (.int .i64 ((rd_T89 l0_2 x25_2).f4)) := (bC40 BK522.out 4).trans rfl; have hfz32_0 := blk_frozen BK522.out 0; have hfz32_1 := blk_frozen BK522.out 1; have hfz32_2 := blk_frozen BK522.out 2; have hfz32_3 := blk_frozen BK522.out 3; have hfz32_4 := blk_frozen BK522.out 4)); try go_wp2_with (first | (go_at_call 78; (with_reducible refine (impl_Plan_stop.calls a0_0 a0_1 _ _ l0_2 ((rd_T89 l0_2 x25_2).f0) true _ ?side1 ?side2 A20.out).mono ?_); (case side1 => exact Kd.C_below HR0_2.out (ne_ HB.out)); (case side2 => exact HC0_2.out); rintro e w28 ⟨rfl, hb⟩; have n0_ := Aside0.mk (bB40 (g := gb518) (o := .cells #[.int .i64 a0_0, .int .i64 a0_1, .slice (some ad521) l0_2.length c0_2] 54 (0, 0)) (nbf_ BK518.out) hb); have n1_ := Aside0.mk (bB40 (g := gb522) (o := .cells #[.int .i64 ((rd_T89 l0_2 x25_2).f0), .int .i64 ((rd_T89 l0_2 x25_2).f1), .int .i64 ((rd_T89 l0_2 x25_2).f2), .int .i64 ((rd_T89 l0_2 x25_2).f3), .int .i64 ((rd_T89 l0_2 x25_2).f4)] 89 (0, 0)) (by (with_reducible repeat (first | refine bN40 ?_ _ | refine bD40 ?_ | refine bA40 ?_ _)); refine blk_put (cs := #[.int .i64 ((rd_T89 l0_2 x25_2).f0), .int .i64 ((rd_T89 l0_2 x25_2).f1), .int .i64 ((rd_T89 l0_2 x25_2).f2), .int .i64 ((rd_T89 l0_2 x25_2).f3), .int .i64 0]) ?_ 4 _ rfl; (with_reducible repeat (first | refine bN40 ?_ _ | refine bD40 ?_ | refine bA40 ?_ _)); refine blk_put (cs := #[.int .i64 ((rd_T89 l0_2 x25_2).f0), .int .i64 ((rd_T89 l0_2 x25_2).f1), .int .i64 ((rd_T89 l0_2 x25_2).f2), .int .i64 0, .int .i64 0]) ?_ 3 _ rfl; (with_reducible repeat (first | refine bN40 ?_ _ | refine bD40 ?_ | refine bA40 ?_ _)); refine blk_put (cs := #[.int .i64 ((rd_T89 l0_2 x25_2).f0), .int .i64 ((rd_T89 l0_2 x25_2).f1), .int .i64 0, .int .i64 0, .int .i64 0]) ?_ 2 _ rfl; (with_reducible repeat (first | refine bN40 ?_ _ | refine bD40 ?_ | refine bA40 ?_ _)); refine blk_put (cs := #[.int .i64 ((rd_T89 l0_2 x25_2).f0), .int .i64 0, .int .i64 0, .int .i64 0, .int .i64 0]) ?_ 1 _ rfl; (with_reducible repeat (first | refine bN40 ?_ _ | refine bD40 ?_ | refine bA40 ?_ _)); refine blk_put (cs := #[.int .i64 0, .int .i64 0, .int .i64 0, .int .i64 0, .int .i64 0]) ?_ 0 _ rfl; (with_reducible repeat (first | refine bN40 ?_ _ | refine bD40 ?_ | refine bA40 ?_ _)); exact BK522.out) hb); have n2_ := Aside0.mk (eS40 (ne_ HB.out) hb); clear BK518; clear BK522; clear HB; have BK518 := n0_; have BK522 := n1_; have HB := n2_; clear n0_ n1_ n2_; (try clear hb); (try clear hb2); (try clear hk); (try clear hi); have hcz29_0 : w28.cell? ⟨gb518, 0, none⟩ = some (.int .i64 a0_0) := (bC40 BK518.out 0).trans rfl; have hcz29_1 : w28.cell? ⟨gb518, 1, none⟩ = some (.int .i64 a0_1) := (bC40 BK518.out 1).trans rfl; have hcz29_2 : w28.cell? ⟨gb518, 2, none⟩ = some (.slice (some ad521) l0_2.length c0_2) := (bC40 BK518.out 2).trans rfl; have hfz29_0 := blk_frozen BK518.out 0; have hfz29_1 := blk_frozen BK518.out 1; have hfz29_2 := blk_frozen BK518.out 2; have hcz30_0 : w28.cell? ⟨gb522, 0, none⟩ = some (.int .i64 ((rd_T89 l0_2 x25_2).f0)) := (bC40 BK522.out 0).trans rfl; have hcz30_1 : w28.cell? ⟨gb522, 1, none⟩ = some (.int .i64 ((rd_T89 l0_2 x25_2).f1)) := (bC40 BK522.out 1).trans rfl; have hcz30_2 : w28.cell? ⟨gb522, 2, none⟩ = some (.int .i64 ((rd_T89 l0_2 x25_2).f2)) := (bC40 BK522.out 2).trans rfl; have hcz30_3 : w28.cell? ⟨gb522, 3, none⟩ = some (.int .i64 ((rd_T89 l0_2 x25_2).f3)) := (bC40 BK522.out 3).trans rfl; have hcz30_4 : w28.cell? ⟨gb522, 4, none⟩ = some (.int .i64 ((rd_T89 l0_2 x25_2).f4)) := (bC40 BK522.out 4).trans rfl; have hfz30_0 := blk_frozen BK522.out 0; have hfz30_1 := blk_frozen BK522.out 1; have hfz30_2 := blk_frozen BK522.out 2; have hfz30_3 := blk_frozen BK522.out 3; have hfz30_4 := blk_frozen BK522.out 4) | (go_at_call 78; (with_reducible refine (impl_Plan_stop.calls a0_0 a0_1 _ _ l0_2 ((rd_T89 l0_2 x25_2).f1) true _ ?side1 ?side2 A22.out).mono ?_); (case side1 => exact nc_ (Kd.C_below HR0_2.out HB.out)); (case side2 => exact HC0_2.out); rintro e w31 ⟨rfl, hb⟩; have n0_ := Aside0.mk (bB40 (g := gb518) (o := .cells #[.int .i64 a0_0, .int .i64 a0_1, .slice (some ad521) l0_2.length c0_2] 54 (0, 0)) (nb_ BK518.out) hb); have n1_ := Aside0.mk (bB40 (g := gb522) (o := .cells #[.int .i64 ((rd_T89 l0_2 x25_2).f0), .int .i64 ((rd_T89 l0_2 x25_2).f1), .int .i64 ((rd_T89 l0_2 x25_2).f2), .int .i64 ((rd_T89 l0_2 x25_2).f3), .int .i64 ((rd_T89 l0_2 x25_2).f4)] 89 (0, 0)) (nb_ BK522.out) hb); have n2_ := Aside0.mk (eS40 (ne_ HB.out) hb); clear BK518; clear BK522; clear HB; have BK518 := n0_; have BK522 := n1_; have HB := n2_; clear n0_ n1_ n2_; (try clear hb); (try clear hb2); (try clear hk); (try clear hi); have hcz32_0 : w31.cell? ⟨gb522, 0, none⟩ = some (.int .i64 ((rd_T89 l0_2 x25_2).f0)) := (bC40 BK522.out 0).trans rfl; have hcz32_1 : w31.cell? ⟨gb522, 1, none⟩ = some (.int .i64 ((rd_T89 l0_2 x25_2).f1)) := (bC40 BK522.out 1).trans rfl; have hcz32_2 : w31.cell? ⟨gb522, 2, none⟩ = some (.int .i64 ((rd_T89 l0_2 x25_2).f2)) := (bC40 BK522.out 2).trans rfl; have hcz32_3 : w31.cell? ⟨gb522, 3, none⟩ = some (.int .i64 ((rd_T89 l0_2 x25_2).f3)) := (bC40 BK522.out 3).trans rfl; have hcz32_4 : w31.cell? ⟨gb522, 4, none⟩ = some (.int .i64 ((rd_T89 l0_2 x25_2).f4)) := (bC40 BK522.out 4).trans rfl; have hfz32_0 := blk_frozen BK522.out 0; have hfz32_1 := blk_frozen BK522.out 1; have hfz32_2 := blk_frozen BK522.out 2; have hfz32_3 := blk_frozen BK522.out 3; have hfz32_4 := blk_frozen BK522.out 4)))
              go_meet
              case rel => exact ⟨_, (true), ns_, H', ⟨by have := HJ1.out; have := HK2.out; first | omega | exact Nat.le_refl _⟩, ⟨by (with_reducible repeat (first | refine bN40 ?_ _ | refine bD40 ?_ | refine bA40 ?_ _)); exact BK518.out⟩, ⟨by (with_reducible repeat (first | refine bN40 ?_ _ | refine bD40 ?_ | refine bA40 ?_ _)); exact BK522.out⟩, ⟨by repeat (first | (with_reducible first | exact HB.out | apply below_alloc | apply pw_below_drewN | apply below_drew1 | refine below_set ?_ GE518.out | refine below_set ?_ GE522.out) | exact HB.out)⟩⟩
             ·rw [if_neg c24] at H
              have c24b0 : (((rd_T89 l0_2 x25_2).f0) == ((rd_T89 l0_2 x25_2).f1)) = false := beq_eq_false_iff_ne.mpr c24
              have c24b1 : (((rd_T89 l0_2 x25_2).f0) != ((rd_T89 l0_2 x25_2).f1)) = true := bne_iff_ne.mpr c24
              (first | rw [c24b0] | (simp only [i64_w, i32_w]; rw [c24b0]) | skip)
              replace H := Option.bind_eq_some_iff.mp H
              obtain ⟨t525, A330, H⟩ := H
              replace H : (if t525 = true then ((impl_within.f ((rd_T89 l0_2 x25_2).f4) 0 5).bind fun t526 => (impl_PlanOk.j2 k2 x25_2 l0_2 (l0_2.length : Int) x25_2 (!t526) a0_0 a0_1 l0_2 ((rd_T89 l0_2 x25_2).f0) ((rd_T89 l0_2 x25_2).f1) ((rd_T89 l0_2 x25_2).f2) ((rd_T89 l0_2 x25_2).f3) ((rd_T89 l0_2 x25_2).f4))) else (impl_PlanOk.j2 k2 x25_2 l0_2 (l0_2.length : Int) x25_2 true a0_0 a0_1 l0_2 ((rd_T89 l0_2 x25_2).f0) ((rd_T89 l0_2 x25_2).f1) ((rd_T89 l0_2 x25_2).f2) ((rd_T89 l0_2 x25_2).f3) ((rd_T89 l0_2 x25_2).f4))) = some r := H
              have A33 := Aside0.mk A330
              clear A330
              by_cases c34 : t525 = true
              ·subst c34
               have H1 : ((impl_within.f ((rd_T89 l0_2 x25_2).f4) 0 5).bind fun t526 => (impl_PlanOk.j2 k2 x25_2 l0_2 (l0_2.length : Int) x25_2 (!t526) a0_0 a0_1 l0_2 ((rd_T89 l0_2 x25_2).f0) ((rd_T89 l0_2 x25_2).f1) ((rd_T89 l0_2 x25_2).f2) ((rd_T89 l0_2 x25_2).f3) ((rd_T89 l0_2 x25_2).f4))) = some r := by rw [if_pos rfl] at H; exact H
               clear H
               have H := H1
               clear H1
               replace H := Option.bind_eq_some_iff.mp H
               obtain ⟨t526, A350, H⟩ := H
               replace H : (impl_PlanOk.j2 k2 x25_2 l0_2 (l0_2.length : Int) x25_2 (!t526) a0_0 a0_1 l0_2 ((rd_T89 l0_2 x25_2).f0) ((rd_T89 l0_2 x25_2).f1) ((rd_T89 l0_2 x25_2).f2) ((rd_T89 l0_2 x25_2).f3) ((rd_T89 l0_2 x25_2).f4)) = some r := H
               have A35 := Aside0.mk A350
               clear A350
               have H' := Aside0.mk H
               clear H
               have hnb36 := NB518_522.out
               have hnc36 := NB522_518.out
               have hcz37_0 : w17.cell? ⟨gb518, 0, none⟩ = some (.int .i64 a0_0) := (bC40 BK518.out 0).trans rfl
               have hcz37_1 : w17.cell? ⟨gb518, 1, none⟩ = some (.int .i64 a0_1) := (bC40 BK518.out 1).trans rfl
               have hcz37_2 : w17.cell? ⟨gb518, 2, none⟩ = some (.slice (some ad521) l0_2.length c0_2) := (bC40 BK518.out 2).trans rfl
               have hfz37_0 := blk_frozen BK518.out 0
               have hfz37_1 := blk_frozen BK518.out 1
               have hfz37_2 := blk_frozen BK518.out 2
               have hcz38_0 : w17.cell? ⟨gb522, 0, none⟩ = some (.int .i64 0) := (bC40 BK522.out 0).trans rfl
               have hcz38_1 : w17.cell? ⟨gb522, 1, none⟩ = some (.int .i64 0) := (bC40 BK522.out 1).trans rfl
               have hcz38_2 : w17.cell? ⟨gb522, 2, none⟩ = some (.int .i64 0) := (bC40 BK522.out 2).trans rfl
               have hcz38_3 : w17.cell? ⟨gb522, 3, none⟩ = some (.int .i64 0) := (bC40 BK522.out 3).trans rfl
               have hcz38_4 : w17.cell? ⟨gb522, 4, none⟩ = some (.int .i64 0) := (bC40 BK522.out 4).trans rfl
               have hfz38_0 := blk_frozen BK522.out 0
               have hfz38_1 := blk_frozen BK522.out 1
               have hfz38_2 := blk_frozen BK522.out 2
               have hfz38_3 := blk_frozen BK522.out 3
               have hfz38_4 := blk_frozen BK522.out 4
               go_wp2_with (first | (go_at_call 78; (with_reducible refine (impl_Plan_stop.calls a0_0 a0_1 _ _ l0_2 ((rd_T89 l0_2 x25_2).f0) true _ ?side1 ?side2 A20.out).mono ?_); (case side1 => exact Kd.C_below HR0_2.out (ne_ HB.out)); (case side2 => exact HC0_2.out); rintro e w39 ⟨rfl, hb⟩; have n0_ := Aside0.mk (bB40 (g := gb518) (o := .cells #[.int .i64 a0_0, .int .i64 a0_1, .slice (some ad521) l0_2.length c0_2] 54 (0, 0)) (nbf_ BK518.out) hb); have n1_ := Aside0.mk (bB40 (g := gb522) (o := .cells #[.int .i64 ((rd_T89 l0_2 x25_2).f0), .int .i64 ((rd_T89 l0_2 x25_2).f1), .int .i64 ((rd_T89 l0_2 x25_2).f2), .int .i64 ((rd_T89 l0_2 x25_2).f3), .int .i64 ((rd_T89 l0_2 x25_2).f4)] 89 (0, 0)) (by (with_reducible repeat (first | refine bN40 ?_ _ | refine bD40 ?_ | refine bA40 ?_ _)); refine blk_put (cs := #[.int .i64 ((rd_T89 l0_2 x25_2).f0), .int .i64 ((rd_T89 l0_2 x25_2).f1), .int .i64 ((rd_T89 l0_2 x25_2).f2), .int .i64 ((rd_T89 l0_2 x25_2).f3), .int .i64 0]) ?_ 4 _ rfl; (with_reducible repeat (first | refine bN40 ?_ _ | refine bD40 ?_ | refine bA40 ?_ _)); refine blk_put (cs := #[.int .i64 ((rd_T89 l0_2 x25_2).f0), .int .i64 ((rd_T89 l0_2 x25_2).f1), .int .i64 ((rd_T89 l0_2 x25_2).f2), .int .i64 0, .int .i64 0]) ?_ 3 _ rfl; (with_reducible repeat (first | refine bN40 ?_ _ | refine bD40 ?_ | refine bA40 ?_ _)); refine blk_put (cs := #[.int .i64 ((rd_T89 l0_2 x25_2).f0), .int .i64 ((rd_T89 l0_2 x25_2).f1), .int .i64 0, .int .i64 0, .int .i64 0]) ?_ 2 _ rfl; (with_reducible repeat (first | refine bN40 ?_ _ | refine bD40 ?_ | refine bA40 ?_ _)); refine blk_put (cs := #[.int .i64 ((rd_T89 l0_2 x25_2).f0), .int .i64 0, .int .i64 0, .int .i64 0, .int .i64 0]) ?_ 1 _ rfl; (with_reducible repeat (first | refine bN40 ?_ _ | refine bD40 ?_ | refine bA40 ?_ _)); refine blk_put (cs := #[.int .i64 0, .int .i64 0, .int .i64 0, .int .i64 0, .int .i64 0]) ?_ 0 _ rfl; (with_reducible repeat (first | refine bN40 ?_ _ | refine bD40 ?_ | refine bA40 ?_ _)); exact BK522.out) hb); have n2_ := Aside0.mk (eS40 (ne_ HB.out) hb); clear BK518; clear BK522; clear HB; have BK518 := n0_; have BK522 := n1_; have HB := n2_; clear n0_ n1_ n2_; (try clear hb); (try clear hb2); (try clear hk); (try clear hi); have hcz40_0 : w39.cell? ⟨gb518, 0, none⟩ = some (.int .i64 a0_0) := (bC40 BK518.out 0).trans rfl; have hcz40_1 : w39.cell? ⟨gb518, 1, none⟩ = some (.int .i64 a0_1) := (bC40 BK518.out 1).trans rfl; have hcz40_2 : w39.cell? ⟨gb518, 2, none⟩ = some (.slice (some ad521) l0_2.length c0_2) := (bC40 BK518.out 2).trans rfl; have hfz40_0 := blk_frozen BK518.out 0; have hfz40_1 := blk_frozen BK518.out 1; have hfz40_2 := blk_frozen BK518.out 2; have hcz41_0 : w39.cell? ⟨gb522, 0, none⟩ = some (.int .i64 ((rd_T89 l0_2 x25_2).f0)) := (bC40 BK522.out 0).trans rfl; have hcz41_1 : w39.cell? ⟨gb522, 1, none⟩ = some (.int .i64 ((rd_T89 l0_2 x25_2).f1)) := (bC40 BK522.out 1).trans rfl; have hcz41_2 : w39.cell? ⟨gb522, 2, none⟩ = some (.int .i64 ((rd_T89 l0_2 x25_2).f2)) := (bC40 BK522.out 2).trans rfl; have hcz41_3 : w39.cell? ⟨gb522, 3, none⟩ = some (.int .i64 ((rd_T89 l0_2 x25_2).f3)) := (bC40 BK522.out 3).trans rfl; have hcz41_4 : w39.cell? ⟨gb522, 4, none⟩ = some (.int .i64 ((rd_T89 l0_2 x25_2).f4)) := (bC40 BK522.out 4).trans rfl; have hfz41_0 := blk_frozen BK522.out 0; have hfz41_1 := blk_frozen BK522.out 1; have hfz41_2 := blk_frozen BK522.out 2; have hfz41_3 := blk_frozen BK522.out 3; have hfz41_4 := blk_frozen BK522.out 4) | (go_at_call 78; (with_reducible refine (impl_Plan_stop.calls a0_0 a0_1 _ _ l0_2 ((rd_T89 l0_2 x25_2).f1) true _ ?side1 ?side2 A22.out).mono ?_); (case side1 => exact nc_ (Kd.C_below HR0_2.out HB.out)); (case side2 => exact HC0_2.out); rintro e w42 ⟨rfl, hb⟩; have n0_ := Aside0.mk (bB40 (g := gb518) (o := .cells #[.int .i64 a0_0, .int .i64 a0_1, .slice (some ad521) l0_2.length c0_2] 54 (0, 0)) (nb_ BK518.out) hb); have n1_ := Aside0.mk (bB40 (g := gb522) (o := .cells #[.int .i64 ((rd_T89 l0_2 x25_2).f0), .int .i64 ((rd_T89 l0_2 x25_2).f1), .int .i64 ((rd_T89 l0_2 x25_2).f2), .int .i64 ((rd_T89 l0_2 x25_2).f3), .int .i64 ((rd_T89 l0_2 x25_2).f4)] 89 (0, 0)) (nb_ BK522.out) hb); have n2_ := Aside0.mk (eS40 (ne_ HB.out) hb); clear BK518; clear BK522; clear HB; have BK518 := n0_; have BK522 := n1_; have HB := n2_; clear n0_ n1_ n2_; (try clear hb); (try clear hb2); (try clear hk); (try clear hi); have hcz43_0 : w42.cell? ⟨gb522, 0, none⟩ = some (.int .i64 ((rd_T89 l0_2 x25_2).f0)) := (bC40 BK522.out 0).trans rfl; have hcz43_1 : w42.cell? ⟨gb522, 1, none⟩ = some (.int .i64 ((rd_T89 l0_2 x25_2).f1)) := (bC40 BK522.out 1).trans rfl; have hcz43_2 : w42.cell? ⟨gb522, 2, none⟩ = some (.int .i64 ((rd_T89 l0_2 x25_2).f2)) := (bC40 BK522.out 2).trans rfl; have hcz43_3 : w42.cell? ⟨gb522, 3, none⟩ = some (.int .i64 ((rd_T89 l0_2 x25_2).f3)) := (bC40 BK522.out 3).trans rfl; have hcz43_4 : w42.cell? ⟨gb522, 4, none⟩ = some (.int .i64 ((rd_T89 l0_2 x25_2).f4)) := (bC40 BK522.out 4).trans rfl; have hfz43_0 := blk_frozen BK522.out 0; have hfz43_1 := blk_frozen BK522.out 1; have hfz43_2 := blk_frozen BK522.out 2; have hfz43_3 := blk_frozen BK522.out 3; have hfz43_4 := blk_frozen BK522.out 4) | (go_at_call 79; (with_reducible refine (impl_Step_valid.calls ((rd_T89 l0_2 x25_2).f2) ((rd_T89 l0_2 x25_2).f3) true _ A33.out).mono ?_); rintro e w44 ⟨rfl, hb⟩; have n0_ := Aside0.mk (bB40 (g := gb518) (o := .cells #[.int .i64 a0_0, .int .i64 a0_1, .slice (some ad521) l0_2.length c0_2] 54 (0, 0)) (nb_ BK518.out) hb); have n1_ := Aside0.mk (bB40 (g := gb522) (o := .cells #[.int .i64 ((rd_T89 l0_2 x25_2).f0), .int .i64 ((rd_T89 l0_2 x25_2).f1), .int .i64 ((rd_T89 l0_2 x25_2).f2), .int .i64 ((rd_T89 l0_2 x25_2).f3), .int .i64 ((rd_T89 l0_2 x25_2).f4)] 89 (0, 0)) (nb_ BK522.out) hb); have n2_ := Aside0.mk (eS40 (ne_ HB.out) hb); clear BK518; clear BK522; clear HB; have BK518 := n0_; have BK522 := n1_; have HB := n2_; clear n0_ n1_ n2_; (try clear hb); (try clear hb2); (try clear hk); (try clear hi); have hcz45_0 : w44.cell? ⟨gb522, 0, none⟩ = some (.int .i64 ((rd_T89 l0_2 x25_2).f0)) := (bC40 BK522.out 0).trans rfl; have hcz45_1 : w44.cell? ⟨gb522, 1, none⟩ = some (.int .i64 ((rd_T89 l0_2 x25_2).f1)) := (bC40 BK522.out 1).trans rfl; have hcz45_2 : w44.cell? ⟨gb522, 2, none⟩ = some (.int .i64 ((rd_T89 l0_2 x25_2).f2)) := (bC40 BK522.out 2).trans rfl; have hcz45_3 : w44.cell? ⟨gb522, 3, none⟩ = some (.int .i64 ((rd_T89 l0_2 x25_2).f3)) := (bC40 BK522.out 3).trans rfl; have hcz45_4 : w44.cell? ⟨gb522, 4, none⟩ = some (.int .i64 ((rd_T89 l0_2 x25_2).f4)) := (bC40 BK522.out 4).trans rfl; have hfz45_0 := blk_frozen BK522.out 0; have hfz45_1 := blk_frozen BK522.out 1; have hfz45_2 := blk_frozen BK522.out 2; have hfz45_3 := blk_frozen BK522.out 3; have hfz45_4 := blk_frozen BK522.out 4) | (go_at_call 62; (with_reducible refine (impl_within.calls ((rd_T89 l0_2 x25_2).f4) 0 5 t526 _ A35.out).mono ?_); rintro e w' ⟨rfl, ⟨nd, rfl⟩⟩; (try first | exact ⟨rfl, _, World.drewN_drewN _ _ _⟩ | exact ⟨rfl, _, Eq.trans (World.drewN_drewN _ _ _) (congrArg (World.drewN _) (Nat.add_assoc _ _ _))⟩)))
               repeat (go_quiet (first | (go_at_call 78; (with_reducible refine (impl_Plan_stop.calls a0_0 a0_1 _ _ l0_2 ((rd_T89 l0_2 x25_2).f0) true _ ?side1 ?side2 A20.out).mono ?_); (case side1 => exact Kd.C_below HR0_2.out (ne_ HB.out)); (case side2 => exact HC0_2.out); rintro e w39 ⟨rfl, hb⟩; have n0_ := Aside0.mk (bB40 (g := gb518) (o := .cells #[.int .i64 a0_0, .int .i64 a0_1, .slice (some ad521) l0_2.length c0_2] 54 (0, 0)) (nbf_ BK518.out) hb); have n1_ := Aside0.mk (bB40 (g := gb522) (o := .cells #[.int .i64 ((rd_T89 l0_2 x25_2).f0), .int .i64 ((rd_T89 l0_2 x25_2).f1), .int .i64 ((rd_T89 l0_2 x25_2).f2), .int .i64 ((rd_T89 l0_2 x25_2).f3), .int .i64 ((rd_T89 l0_2 x25_2).f4)] 89 (0, 0)) (by (with_reducible repeat (first | refine bN40 ?_ _ | refine bD40 ?_ | refine bA40 ?_ _)); refine blk_put (cs := #[.int .i64 ((rd_T89 l0_2 x25_2).f0), .int .i64 ((rd_T89 l0_2 x25_2).f1), .int .i64 ((rd_T89 l0_2 x25_2).f2), .int .i64 ((rd_T89 l0_2 x25_2).f3), .int .i64 0]) ?_ 4 _ rfl; (with_reducible repeat (first | refine bN40 ?_ _ | refine bD40 ?_ | refine bA40 ?_ _)); refine blk_put (cs := #[.int .i64 ((rd_T89 l0_2 x25_2).f0), .int .i64 ((rd_T89 l0_2 x25_2).f1), .int .i64 ((rd_T89 l0_2 x25_2).f2), .int .i64 0, .int .i64 0]) ?_ 3 _ rfl; (with_reducible repeat (first | refine bN40 ?_ _ | refine bD40 ?_ | refine bA40 ?_ _)); refine blk_put (cs := #[.int .i64 ((rd_T89 l0_2 x25_2).f0), .int .i64 ((rd_T89 l0_2 x25_2).f1), .int .i64 0, .int .i64 0, .int .i64 0]) ?_ 2 _ rfl; (with_reducible repeat (first | refine bN40 ?_ _ | refine bD40 ?_ | refine bA40 ?_ _)); refine blk_put (cs := #[.int .i64 ((rd_T89 l0_2 x25_2).f0), .int .i64 0, .int .i64 0, .int .i64 0, .int .i64 0]) ?_ 1 _ rfl; (with_reducible repeat (first | refine bN40 ?_ _ | refine bD40 ?_ | refine bA40 ?_ _)); refine blk_put (cs := #[.int .i64 0, .int .i64 0, .int .i64 0, .int .i64 0, .int .i64 0]) ?_ 0 _ rfl; (with_reducible repeat (first | refine bN40 ?_ _ | refine bD40 ?_ | refine bA40 ?_ _)); exact BK522.out) hb); have n2_ := Aside0.mk (eS40 (ne_ HB.out) hb); clear BK518; clear BK522; clear HB; have BK518 := n0_; have BK522 := n1_; have HB := n2_; clear n0_ n1_ n2_; (try clear hb); (try clear hb2); (try clear hk); (try clear hi); have hcz40_0 : w39.cell? ⟨gb518, 0, none⟩ = some (.int .i64 a0_0) := (bC40 BK518.out 0).trans rfl; have hcz40_1 : w39.cell? ⟨gb518, 1, none⟩ = some (.int .i64 a0_1) := (bC40 BK518.out 1).trans rfl; have hcz40_2 : w39.cell? ⟨gb518, 2, none⟩ = some (.slice (some ad521) l0_2.length c0_2) := (bC40 BK518.out 2).trans rfl; have hfz40_0 := blk_frozen BK518.out 0; have hfz40_1 := blk_frozen BK518.out 1; have hfz40_2 := blk_frozen BK518.out 2; have hcz41_0 : w39.cell? ⟨gb522, 0, none⟩ = some (.int .i64 ((rd_T89 l0_2 x25_2).f0)) := (bC40 BK522.out 0).trans rfl; have hcz41_1 : w39.cell? ⟨gb522, 1, none⟩ = some (.int .i64 ((rd_T89 l0_2 x25_2).f1)) := (bC40 BK522.out 1).trans rfl; have hcz41_2 : w39.cell? ⟨gb522, 2, none⟩ = some (.int .i64 ((rd_T89 l0_2 x25_2).f2)) := (bC40 BK522.out 2).trans rfl; have hcz41_3 : w39.cell? ⟨gb522, 3, none⟩ = some (.int .i64 ((rd_T89 l0_2 x25_2).f3)) := (bC40 BK522.out 3).trans rfl; have hcz41_4 : w39.cell? ⟨gb522, 4, none⟩ = some (.int .i64 ((rd_T89 l0_2 x25_2).f4)) := (bC40 BK522.out 4).trans rfl; have hfz41_0 := blk_frozen BK522.out 0; have hfz41_1 := blk_frozen BK522.out 1; have hfz41_2 := blk_frozen BK522.out 2; have hfz41_3 := blk_frozen BK522.out 3; have hfz41_4 := blk_frozen BK522.out 4) | (go_at_call 78; (with_reducible refine (impl_Plan_stop.calls a0_0 a0_1 _ _ l0_2 ((rd_T89 l0_2 x25_2).f1) true _ ?side1 ?side2 A22.out).mono ?_); (case side1 => exact nc_ (Kd.C_below HR0_2.out HB.out)); (case side2 => exact HC0_2.out); rintro e w42 ⟨rfl, hb⟩; have n0_ := Aside0.mk (bB40 (g := gb518) (o := .cells #[.int .i64 a0_0, .int .i64 a0_1, .slice (some ad521) l0_2.length c0_2] 54 (0, 0)) (nb_ BK518.out) hb); have n1_ := Aside0.mk (bB40 (g := gb522) (o := .cells #[.int .i64 ((rd_T89 l0_2 x25_2).f0), .int .i64 ((rd_T89 l0_2 x25_2).f1), .int .i64 ((rd_T89 l0_2 x25_2).f2), .int .i64 ((rd_T89 l0_2 x25_2).f3), .int .i64 ((rd_T89 l0_2 x25_2).f4)] 89 (0, 0)) (nb_ BK522.out) hb); have n2_ := Aside0.mk (eS40 (ne_ HB.out) hb); clear BK518; clear BK522; clear HB; have BK518 := n0_; have BK522 := n1_; have HB := n2_; clear n0_ n1_ n2_; (try clear hb); (try clear hb2); (try clear hk); (try clear hi); have hcz43_0 : w42.cell? ⟨gb522, 0, none⟩ = some (.int .i64 ((rd_T89 l0_2 x25_2).f0)) := (bC40 BK522.out 0).trans rfl; have hcz43_1 : w42.cell? ⟨gb522, 1, none⟩ = some (.int .i64 ((rd_T89 l0_2 x25_2).f1)) := (bC40 BK522.out 1).trans rfl; have hcz43_2 : w42.cell? ⟨gb522, 2, none⟩ = some (.int .i64 ((rd_T89 l0_2 x25_2).f2)) := (bC40 BK522.out 2).trans rfl; have hcz43_3 : w42.cell? ⟨gb522, 3, none⟩ = some (.int .i64 ((rd_T89 l0_2 x25_2).f3)) := (bC40 BK522.out 3).trans rfl; have hcz43_4 : w42.cell? ⟨gb522, 4, none⟩ = some (.int .i64 ((rd_T89 l0_2 x25_2).f4)) := (bC40 BK522.out 4).trans rfl; have hfz43_0 := blk_frozen BK522.out 0; have hfz43_1 := blk_frozen BK522.out 1; have hfz43_2 := blk_frozen BK522.out 2; have hfz43_3 := blk_frozen BK522.out 3; have hfz43_4 := blk_frozen BK522.out 4) | (go_at_call 79; (with_reducible refine (impl_Step_valid.calls ((rd_T89 l0_2 x25_2).f2) ((rd_T89 l0_2 x25_2).f3) true _ A33.out).mono ?_); rintro e w44 ⟨rfl, hb⟩; have n0_ := Aside0.mk (bB40 (g := gb518) (o := .cells #[.int .i64 a0_0, .int .i64 a0_1, .slice (some ad521) l0_2.length c0_2] 54 (0, 0)) (nb_ BK518.out) hb); have n1_ := Aside0.mk (bB40 (g := gb522) (o := .cells #[.int .i64 ((rd_T89 l0_2 x25_2).f0), .int .i64 ((rd_T89 l0_2 x25_2).f1), .int .i64 ((rd_T89 l0_2 x25_2).f2), .int .i64 ((rd_T89 l0_2 x25_2).f3), .int .i64 ((rd_T89 l0_2 x25_2).f4)] 89 (0, 0)) (nb_ BK522.out) hb); have n2_ := Aside0.mk (eS40 (ne_ HB.out) hb); clear BK518; clear BK522; clear HB; have BK518 := n0_; have BK522 := n1_; have HB := n2_; clear n0_ n1_ n2_; (try clear hb); (try clear hb2); (try clear hk); (try clear hi); have hcz45_0 : w44.cell? ⟨gb522, 0, none⟩ = some (.int .i64 ((rd_T89 l0_2 x25_2).f0)) := (bC40 BK522.out 0).trans rfl; have hcz45_1 : w44.cell? ⟨gb522, 1, none⟩ = some (.int .i64 ((rd_T89 l0_2 x25_2).f1)) := (bC40 BK522.out 1).trans rfl; have hcz45_2 : w44.cell? ⟨gb522, 2, none⟩ = some (.int .i64 ((rd_T89 l0_2 x25_2).f2)) := (bC40 BK522.out 2).trans rfl; have hcz45_3 : w44.cell? ⟨gb522, 3, none⟩ = some (.int .i64 ((rd_T89 l0_2 x25_2).f3)) := (bC40 BK522.out 3).trans rfl; have hcz45_4 : w44.cell? ⟨gb522, 4, none⟩ = some (.int .i64 ((rd_T89 l0_2 x25_2).f4)) := (bC40 BK522.out 4).trans rfl; have hfz45_0 := blk_frozen BK522.out 0; have hfz45_1 := blk_frozen BK522.out 1; have hfz45_2 := blk_frozen BK522.out 2; have hfz45_3 := blk_frozen BK522.out 3; have hfz45_4 := blk_frozen BK522.out 4) | (go_at_call 62; (with_reducible refine (impl_within.calls ((rd_T89 l0_2 x25_2).f4) 0 5 t526 _ A35.out).mono ?_); rintro e w' ⟨rfl, ⟨nd, rfl⟩⟩; (try first | exact ⟨rfl, _, World.drewN_drewN _ _ _⟩ | exact ⟨rfl, _, Eq.trans (World.drewN_drewN _ _ _) (congrArg (World.drewN _) (Nat.add_assoc _ _ _))⟩))); try go_wp2_with (first | (go_at_call 78; (with_reducible refine (impl_Plan_stop.calls a0_0 a0_1 _ _ l0_2 ((rd_T89 l0_2 x25_2).f0) true _ ?side1 ?side2 A20.out).mono ?_); (case side1 => exact Kd.C_below HR0_2.out (ne_ HB.out)); (case side2 => exact HC0_2.out); rintro e w39 ⟨rfl, hb⟩; have n0_ := Aside0.mk (bB40 (g := gb518) (o := .cells #[.int .i64 a0_0, .int .i64 a0_1, .slice (some ad521) l0_2.length c0_2] 54 (0, 0)) (nbf_ BK518.out) hb); have n1_ := Aside0.mk (bB40 (g := gb522) (o := .cells #[.int .i64 ((rd_T89 l0_2 x25_2).f0), .int .i64 ((rd_T89 l0_2 x25_2).f1), .int .i64 ((rd_T89 l0_2 x25_2).f2), .int .i64 ((rd_T89 l0_2 x25_2).f3), .int .i64 ((rd_T89 l0_2 x25_2).f4)] 89 (0, 0)) (by (with_reducible repeat (first | refine bN40 ?_ _ | refine bD40 ?_ | refine bA40 ?_ _)); refine blk_put (cs := #[.int .i64 ((rd_T89 l0_2 x25_2).f0), .int .i64 ((rd_T89 l0_2 x25_2).f1), .int .i64 ((rd_T89 l0_2 x25_2).f2), .int .i64 ((rd_T89 l0_2 x25_2).f3), .int .i64 0]) ?_ 4 _ rfl; (with_reducible repeat (first | refine bN40 ?_ _ | refine bD40 ?_ | refine bA40 ?_ _)); refine blk_put (cs := #[.int .i64 ((rd_T89 l0_2 x25_2).f0), .int .i64 ((rd_T89 l0_2 x25_2).f1), .int .i64 ((rd_T89 l0_2 x25_2).f2), .int .i64 0, .int .i64 0]) ?_ 3 _ rfl; (with_reducible repeat (first | refine bN40 ?_ _ | refine bD40 ?_ | refine bA40 ?_ _)); refine blk_put (cs := #[.int .i64 ((rd_T89 l0_2 x25_2).f0), .int .i64 ((rd_T89 l0_2 x25_2).f1), .int .i64 0, .int .i64 0, .int .i64 0]) ?_ 2 _ rfl; (with_reducible repeat (first | refine bN40 ?_ _ | refine bD40 ?_ | refine bA40 ?_ _)); refine blk_put (cs := #[.int .i64 ((rd_T89 l0_2 x25_2).f0), .int .i64 0, .int .i64 0, .int .i64 0, .int .i64 0]) ?_ 1 _ rfl; (with_reducible repeat (first | refine bN40 ?_ _ | refine bD40 ?_ | refine bA40 ?_ _)); refine blk_put (cs := #[.int .i64 0, .int .i64 0, .int .i64 0, .int .i64 0, .int .i64 0]) ?_ 0 _ rfl; (with_reducible repeat (first | refine bN40 ?_ _ | refine bD40 ?_ | refine bA40 ?_ _)); exact BK522.out) hb); have n2_ := Aside0.mk (eS40 (ne_ HB.out) hb); clear BK518; clear BK522; clear HB; have BK518 := n0_; have BK522 := n1_; have HB := n2_; clear n0_ n1_ n2_; (try clear hb); (try clear hb2); (try clear hk); (try clear hi); have hcz40_0 : w39.cell? ⟨gb518, 0, none⟩ = some (.int .i64 a0_0) := (bC40 BK518.out 0).trans rfl; have hcz40_1 : w39.cell? ⟨gb518, 1, none⟩ = some (.int .i64 a0_1) := (bC40 BK518.out 1).trans rfl; have hcz40_2 : w39.cell? ⟨gb518, 2, none⟩ = some (.slice (some ad521) l0_2.length c0_2) := (bC40 BK518.out 2).trans rfl; have hfz40_0 := blk_frozen BK518.out 0; have hfz40_1 := blk_frozen BK518.out 1; have hfz40_2 := blk_frozen BK518.out 2; have hcz41_0 : w39.cell? ⟨gb522, 0, none⟩ = some (.int .i64 ((rd_T89 l0_2 x25_2).f0)) := (bC40 BK522.out 0).trans rfl; have hcz41_1 : w39.cell? ⟨gb522, 1, none⟩ = some (.int .i64 ((rd_T89 l0_2 x25_2).f1)) := (bC40 BK522.out 1).trans rfl; have hcz41_2 : w39.cell? ⟨gb522, 2, none⟩ = some (.int .i64 ((rd_T89 l0_2 x25_2).f2)) := (bC40 BK522.out 2).trans rfl; have hcz41_3 : w39.cell? ⟨gb522, 3, none⟩ = some (.int .i64 ((rd_T89 l0_2 x25_2).f3)) := (bC40 BK522.out 3).trans rfl; have hcz41_4 : w39.cell? ⟨gb522, 4, none⟩ = some (.int .i64 ((rd_T89 l0_2 x25_2).f4)) := (bC40 BK522.out 4).trans rfl; have hfz41_0 := blk_frozen BK522.out 0; have hfz41_1 := blk_frozen BK522.out 1; have hfz41_2 := blk_frozen BK522.out 2; have hfz41_3 := blk_frozen BK522.out 3; have hfz41_4 := blk_frozen BK522.out 4) | (go_at_call 78; (with_reducible refine (impl_Plan_stop.calls a0_0 a0_1 _ _ l0_2 ((rd_T89 l0_2 x25_2).f1) true _ ?side1 ?side2 A22.out).mono ?_); (case side1 => exact nc_ (Kd.C_below HR0_2.out HB.out)); (case side2 => exact HC0_2.out); rintro e w42 ⟨rfl, hb⟩; have n0_ := Aside0.mk (bB40 (g := gb518) (o := .cells #[.int .i64 a0_0, .int .i64 a0_1, .slice (some ad521) l0_2.length c0_2] 54 (0, 0)) (nb_ BK518.out) hb); have n1_ := Aside0.mk (bB40 (g := gb522) (o := .cells #[.int .i64 ((rd_T89 l0_2 x25_2).f0), .int .i64 ((rd_T89 l0_2 x25_2).f1), .int .i64 ((rd_T89 l0_2 x25_2).f2), .int .i64 ((rd_T89 l0_2 x25_2).f3), .int .i64 ((rd_T89 l0_2 x25_2).f4)] 89 (0, 0)) (nb_ BK522.out) hb); have n2_ := Aside0.mk (eS40 (ne_ HB.out) hb); clear BK518; clear BK522; clear HB; have BK518 := n0_; have BK522 := n1_; have HB := n2_; clear n0_ n1_ n2_; (try clear hb); (try clear hb2); (try clear hk); (try clear hi); have hcz43_0 : w42.cell? ⟨gb522, 0, none⟩ = some (.int .i64 ((rd_T89 l0_2 x25_2).f0)) := (bC40 BK522.out 0).trans rfl; have hcz43_1 : w42.cell? ⟨gb522, 1, none⟩ = some (.int .i64 ((rd_T89 l0_2 x25_2).f1)) := (bC40 BK522.out 1).trans rfl; have hcz43_2 : w42.cell? ⟨gb522, 2, none⟩ = some (.int .i64 ((rd_T89 l0_2 x25_2).f2)) := (bC40 BK522.out 2).trans rfl; have hcz43_3 : w42.cell? ⟨gb522, 3, none⟩ = some (.int .i64 ((rd_T89 l0_2 x25_2).f3)) := (bC40 BK522.out 3).trans rfl; have hcz43_4 : w42.cell? ⟨gb522, 4, none⟩ = some (.int .i64 ((rd_T89 l0_2 x25_2).f4)) := (bC40 BK522.out 4).trans rfl; have hfz43_0 := blk_frozen BK522.out 0; have hfz43_1 := blk_frozen BK522.out 1; have hfz43_2 := blk_frozen BK522.out 2; have hfz43_3 := blk_frozen BK522.out 3; have hfz43_4 := blk_frozen BK522.out 4) | (go_at_call 79; (with_reducible refine (impl_Step_valid.calls ((rd_T89 l0_2 x25_2).f2) ((rd_T89 l0_2 x25_2).f3) true _ A33.out).mono ?_); rintro e w44 ⟨rfl, hb⟩; have n0_ := Aside0.mk (bB40 (g := gb518) (o := .cells #[.int .i64 a0_0, .int .i64 a0_1, .slice (some ad521) l0_2.length c0_2] 54 (0, 0)) (nb_ BK518.out) hb); have n1_ := Aside0.mk (bB40 (g := gb522) (o := .cells #[.int .i64 ((rd_T89 l0_2 x25_2).f0), .int .i64 ((rd_T89 l0_2 x25_2).f1), .int .i64 ((rd_T89 l0_2 x25_2).f2), .int .i64 ((rd_T89 l0_2 x25_2).f3), .int .i64 ((rd_T89 l0_2 x25_2).f4)] 89 (0, 0)) (nb_ BK522.out) hb); have n2_ := Aside0.mk (eS40 (ne_ HB.out) hb); clear BK518; clear BK522; clear HB; have BK518 := n0_; have BK522 := n1_; have HB := n2_; clear n0_ n1_ n2_; (try clear hb); (try clear hb2); (try clear hk); (try clear hi); have hcz45_0 : w44.cell? ⟨gb522, 0, none⟩ = some (.int .i64 ((rd_T89 l0_2 x25_2).f0)) := (bC40 BK522.out 0).trans rfl; have hcz45_1 : w44.cell? ⟨gb522, 1, none⟩ = some (.int .i64 ((rd_T89 l0_2 x25_2).f1)) := (bC40 BK522.out 1).trans rfl; have hcz45_2 : w44.cell? ⟨gb522, 2, none⟩ = some (.int .i64 ((rd_T89 l0_2 x25_2).f2)) := (bC40 BK522.out 2).trans rfl; have hcz45_3 : w44.cell? ⟨gb522, 3, none⟩ = some (.int .i64 ((rd_T89 l0_2 x25_2).f3)) := (bC40 BK522.out 3).trans rfl; have hcz45_4 : w44.cell? ⟨gb522, 4, none⟩ = some (.int .i64 ((rd_T89 l0_2 x25_2).f4)) := (bC40 BK522.out 4).trans rfl; have hfz45_0 := blk_frozen BK522.out 0; have hfz45_1 := blk_frozen BK522.out 1; have hfz45_2 := blk_frozen BK522.out 2; have hfz45_3 := blk_frozen BK522.out 3; have hfz45_4 := blk_frozen BK522.out 4) | (go_at_call 62; (with_reducible refine (impl_within.calls ((rd_T89 l0_2 x25_2).f4) 0 5 t526 _ A35.out).mono ?_); rintro e w' ⟨rfl, ⟨nd, rfl⟩⟩; (try first | exact ⟨rfl, _, World.drewN_drewN _ _ _⟩ | exact ⟨rfl, _, Eq.trans (World.drewN_drewN _ _ _) (congrArg (World.drewN _) (Nat.add_assoc _ _ _))⟩))))
               go_meet
               case rel => exact ⟨_, (!t526), ns_, H', ⟨by have := HJ1.out; have := HK2.out; first | omega | exact Nat.le_refl _⟩, ⟨by (with_reducible repeat (first | refine bN40 ?_ _ | refine bD40 ?_ | refine bA40 ?_ _)); exact BK518.out⟩, ⟨by (with_reducible repeat (first | refine bN40 ?_ _ | refine bD40 ?_ | refine bA40 ?_ _)); exact BK522.out⟩, ⟨by repeat (first | (with_reducible first | exact HB.out | apply below_alloc | apply pw_below_drewN | apply below_drew1 | refine below_set ?_ GE518.out | refine below_set ?_ GE522.out) | exact HB.out)⟩⟩
              ·replace c34 := Bool.eq_false_iff.mpr c34
               subst c34
               have H1 : (impl_PlanOk.j2 k2 x25_2 l0_2 (l0_2.length : Int) x25_2 true a0_0 a0_1 l0_2 ((rd_T89 l0_2 x25_2).f0) ((rd_T89 l0_2 x25_2).f1) ((rd_T89 l0_2 x25_2).f2) ((rd_T89 l0_2 x25_2).f3) ((rd_T89 l0_2 x25_2).f4)) = some r := by rw [if_neg (show ¬ (false = true) by decide)] at H; exact H
               clear H
               have H := H1
               clear H1
               have H' := Aside0.mk H
               clear H
               have hnb46 := NB518_522.out
               have hnc46 := NB522_518.out
               have hcz47_0 : w17.cell? ⟨gb518, 0, none⟩ = some (.int .i64 a0_0) := (bC40 BK518.out 0).trans rfl
               have hcz47_1 : w17.cell? ⟨gb518, 1, none⟩ = some (.int .i64 a0_1) := (bC40 BK518.out 1).trans rfl
               have hcz47_2 : w17.cell? ⟨gb518, 2, none⟩ = some (.slice (some ad521) l0_2.length c0_2) := (bC40 BK518.out 2).trans rfl
               have hfz47_0 := blk_frozen BK518.out 0
               have hfz47_1 := blk_frozen BK518.out 1
               have hfz47_2 := blk_frozen BK518.out 2
               have hcz48_0 : w17.cell? ⟨gb522, 0, none⟩ = some (.int .i64 0) := (bC40 BK522.out 0).trans rfl
               have hcz48_1 : w17.cell? ⟨gb522, 1, none⟩ = some (.int .i64 0) := (bC40 BK522.out 1).trans rfl
               have hcz48_2 : w17.cell? ⟨gb522, 2, none⟩ = some (.int .i64 0) := (bC40 BK522.out 2).trans rfl
               have hcz48_3 : w17.cell? ⟨gb522, 3, none⟩ = some (.int .i64 0) := (bC40 BK522.out 3).trans rfl
               have hcz48_4 : w17.cell? ⟨gb522, 4, none⟩ = some (.int .i64 0) := (bC40 BK522.out 4).trans rfl
               have hfz48_0 := blk_frozen BK522.out 0
               have hfz48_1 := blk_frozen BK522.out 1
               have hfz48_2 := blk_frozen BK522.out 2
               have hfz48_3 := blk_frozen BK522.out 3
               have hfz48_4 := blk_frozen BK522.out 4
               go_wp2_with (first | (go_at_call 78; (with_reducible refine (impl_Plan_stop.calls a0_0 a0_1 _ _ l0_2 ((rd_T89 l0_2 x25_2).f0) true _ ?side1 ?side2 A20.out).mono ?_); (case side1 => exact Kd.C_below HR0_2.out (ne_ HB.out)); (case side2 => exact HC0_2.out); rintro e w49 ⟨rfl, hb⟩; have n0_ := Aside0.mk (bB40 (g := gb518) (o := .cells #[.int .i64 a0_0, .int .i64 a0_1, .slice (some ad521) l0_2.length c0_2] 54 (0, 0)) (nbf_ BK518.out) hb); have n1_ := Aside0.mk (bB40 (g := gb522) (o := .cells #[.int .i64 ((rd_T89 l0_2 x25_2).f0), .int .i64 ((rd_T89 l0_2 x25_2).f1), .int .i64 ((rd_T89 l0_2 x25_2).f2), .int .i64 ((rd_T89 l0_2 x25_2).f3), .int .i64 ((rd_T89 l0_2 x25_2).f4)] 89 (0, 0)) (by (with_reducible repeat (first | refine bN40 ?_ _ | refine bD40 ?_ | refine bA40 ?_ _)); refine blk_put (cs := #[.int .i64 ((rd_T89 l0_2 x25_2).f0), .int .i64 ((rd_T89 l0_2 x25_2).f1), .int .i64 ((rd_T89 l0_2 x25_2).f2), .int .i64 ((rd_T89 l0_2 x25_2).f3), .int .i64 0]) ?_ 4 _ rfl; (with_reducible repeat (first | refine bN40 ?_ _ | refine bD40 ?_ | refine bA40 ?_ _)); refine blk_put (cs := #[.int .i64 ((rd_T89 l0_2 x25_2).f0), .int .i64 ((rd_T89 l0_2 x25_2).f1), .int .i64 ((rd_T89 l0_2 x25_2).f2), .int .i64 0, .int .i64 0]) ?_ 3 _ rfl; (with_reducible repeat (first | refine bN40 ?_ _ | refine bD40 ?_ | refine bA40 ?_ _)); refine blk_put (cs := #[.int .i64 ((rd_T89 l0_2 x25_2).f0), .int .i64 ((rd_T89 l0_2 x25_2).f1), .int .i64 0, .int .i64 0, .int .i64 0]) ?_ 2 _ rfl; (with_reducible repeat (first | refine bN40 ?_ _ | refine bD40 ?_ | refine bA40 ?_ _)); refine blk_put (cs := #[.int .i64 ((rd_T89 l0_2 x25_2).f0), .int .i64 0, .int .i64 0, .int .i64 0, .int .i64 0]) ?_ 1 _ rfl; (with_reducible repeat (first | refine bN40 ?_ _ | refine bD40 ?_ | refine bA40 ?_ _)); refine blk_put (cs := #[.int .i64 0, .int .i64 0, .int .i64 0, .int .i64 0, .int .i64 0]) ?_ 0 _ rfl; (with_reducible repeat (first | refine bN40 ?_ _ | refine bD40 ?_ | refine bA40 ?_ _)); exact BK522.out) hb); have n2_ := Aside0.mk (eS40 (ne_ HB.out) hb); clear BK518; clear BK522; clear HB; have BK518 := n0_; have BK522 := n1_; have HB := n2_; clear n0_ n1_ n2_; (try clear hb); (try clear hb2); (try clear hk); (try clear hi); have hcz50_0 : w49.cell? ⟨gb518, 0, none⟩ = some (.int .i64 a0_0) := (bC40 BK518.out 0).trans rfl; have hcz50_1 : w49.cell? ⟨gb518, 1, none⟩ = some (.int .i64 a0_1) := (bC40 BK518.out 1).trans rfl; have hcz50_2 : w49.cell? ⟨gb518, 2, none⟩ = some (.slice (some ad521) l0_2.length c0_2) := (bC40 BK518.out 2).trans rfl; have hfz50_0 := blk_frozen BK518.out 0; have hfz50_1 := blk_frozen BK518.out 1; have hfz50_2 := blk_frozen BK518.out 2; have hcz51_0 : w49.cell? ⟨gb522, 0, none⟩ = some (.int .i64 ((rd_T89 l0_2 x25_2).f0)) := (bC40 BK522.out 0).trans rfl; have hcz51_1 : w49.cell? ⟨gb522, 1, none⟩ = some (.int .i64 ((rd_T89 l0_2 x25_2).f1)) := (bC40 BK522.out 1).trans rfl; have hcz51_2 : w49.cell? ⟨gb522, 2, none⟩ = some (.int .i64 ((rd_T89 l0_2 x25_2).f2)) := (bC40 BK522.out 2).trans rfl; have hcz51_3 : w49.cell? ⟨gb522, 3, none⟩ = some (.int .i64 ((rd_T89 l0_2 x25_2).f3)) := (bC40 BK522.out 3).trans rfl; have hcz51_4 : w49.cell? ⟨gb522, 4, none⟩ = some (.int .i64 ((rd_T89 l0_2 x25_2).f4)) := (bC40 BK522.out 4).trans rfl; have hfz51_0 := blk_frozen BK522.out 0; have hfz51_1 := blk_frozen BK522.out 1; have hfz51_2 := blk_frozen BK522.out 2; have hfz51_3 := blk_frozen BK522.out 3; have hfz51_4 := blk_frozen BK522.out 4) | (go_at_call 78; (with_reducible refine (impl_Plan_stop.calls a0_0 a0_1 _ _ l0_2 ((rd_T89 l0_2 x25_2).f1) true _ ?side1 ?side2 A22.out).mono ?_); (case side1 => exact nc_ (Kd.C_below HR0_2.out HB.out)); (case side2 => exact HC0_2.out); rintro e w52 ⟨rfl, hb⟩; have n0_ := Aside0.mk (bB40 (g := gb518) (o := .cells #[.int .i64 a0_0, .int .i64 a0_1, .slice (some ad521) l0_2.length c0_2] 54 (0, 0)) (nb_ BK518.out) hb); have n1_ := Aside0.mk (bB40 (g := gb522) (o := .cells #[.int .i64 ((rd_T89 l0_2 x25_2).f0), .int .i64 ((rd_T89 l0_2 x25_2).f1), .int .i64 ((rd_T89 l0_2 x25_2).f2), .int .i64 ((rd_T89 l0_2 x25_2).f3), .int .i64 ((rd_T89 l0_2 x25_2).f4)] 89 (0, 0)) (nb_ BK522.out) hb); have n2_ := Aside0.mk (eS40 (ne_ HB.out) hb); clear BK518; clear BK522; clear HB; have BK518 := n0_; have BK522 := n1_; have HB := n2_; clear n0_ n1_ n2_; (try clear hb); (try clear hb2); (try clear hk); (try clear hi); have hcz53_0 : w52.cell? ⟨gb522, 0, none⟩ = some (.int .i64 ((rd_T89 l0_2 x25_2).f0)) := (bC40 BK522.out 0).trans rfl; have hcz53_1 : w52.cell? ⟨gb522, 1, none⟩ = some (.int .i64 ((rd_T89 l0_2 x25_2).f1)) := (bC40 BK522.out 1).trans rfl; have hcz53_2 : w52.cell? ⟨gb522, 2, none⟩ = some (.int .i64 ((rd_T89 l0_2 x25_2).f2)) := (bC40 BK522.out 2).trans rfl; have hcz53_3 : w52.cell? ⟨gb522, 3, none⟩ = some (.int .i64 ((rd_T89 l0_2 x25_2).f3)) := (bC40 BK522.out 3).trans rfl; have hcz53_4 : w52.cell? ⟨gb522, 4, none⟩ = some (.int .i64 ((rd_T89 l0_2 x25_2).f4)) := (bC40 BK522.out 4).trans rfl; have hfz53_0 := blk_frozen BK522.out 0; have hfz53_1 := blk_frozen BK522.out 1; have hfz53_2 := blk_frozen BK522.out 2; have hfz53_3 := blk_frozen BK522.out 3; have hfz53_4 := blk_frozen BK522.out 4) | (go_at_call 79; (with_reducible refine (impl_Step_valid.calls ((rd_T89 l0_2 x25_2).f2) ((rd_T89 l0_2 x25_2).f3) false _ A33.out).mono ?_); rintro e w54 ⟨rfl, hb⟩; have n0_ := Aside0.mk (bB40 (g := gb518) (o := .cells #[.int .i64 a0_0, .int .i64 a0_1, .slice (some ad521) l0_2.length c0_2] 54 (0, 0)) (nb_ BK518.out) hb); have n1_ := Aside0.mk (bB40 (g := gb522) (o := .cells #[.int .i64 ((rd_T89 l0_2 x25_2).f0), .int .i64 ((rd_T89 l0_2 x25_2).f1), .int .i64 ((rd_T89 l0_2 x25_2).f2), .int .i64 ((rd_T89 l0_2 x25_2).f3), .int .i64 ((rd_T89 l0_2 x25_2).f4)] 89 (0, 0)) (nb_ BK522.out) hb); have n2_ := Aside0.mk (eS40 (ne_ HB.out) hb); clear BK518; clear BK522; clear HB; have BK518 := n0_; have BK522 := n1_; have HB := n2_; clear n0_ n1_ n2_; (try clear hb); (try clear hb2); (try clear hk); (try clear hi)))
               repeat (go_quiet (first | (go_at_call 78; (with_reducible refine (impl_Plan_stop.calls a0_0 a0_1 _ _ l0_2 ((rd_T89 l0_2 x25_2).f0) true _ ?side1 ?side2 A20.out).mono ?_); (case side1 => exact Kd.C_below HR0_2.out (ne_ HB.out)); (case side2 => exact HC0_2.out); rintro e w49 ⟨rfl, hb⟩; have n0_ := Aside0.mk (bB40 (g := gb518) (o := .cells #[.int .i64 a0_0, .int .i64 a0_1, .slice (some ad521) l0_2.length c0_2] 54 (0, 0)) (nbf_ BK518.out) hb); have n1_ := Aside0.mk (bB40 (g := gb522) (o := .cells #[.int .i64 ((rd_T89 l0_2 x25_2).f0), .int .i64 ((rd_T89 l0_2 x25_2).f1), .int .i64 ((rd_T89 l0_2 x25_2).f2), .int .i64 ((rd_T89 l0_2 x25_2).f3), .int .i64 ((rd_T89 l0_2 x25_2).f4)] 89 (0, 0)) (by (with_reducible repeat (first | refine bN40 ?_ _ | refine bD40 ?_ | refine bA40 ?_ _)); refine blk_put (cs := #[.int .i64 ((rd_T89 l0_2 x25_2).f0), .int .i64 ((rd_T89 l0_2 x25_2).f1), .int .i64 ((rd_T89 l0_2 x25_2).f2), .int .i64 ((rd_T89 l0_2 x25_2).f3), .int .i64 0]) ?_ 4 _ rfl; (with_reducible repeat (first | refine bN40 ?_ _ | refine bD40 ?_ | refine bA40 ?_ _)); refine blk_put (cs := #[.int .i64 ((rd_T89 l0_2 x25_2).f0), .int .i64 ((rd_T89 l0_2 x25_2).f1), .int .i64 ((rd_T89 l0_2 x25_2).f2), .int .i64 0, .int .i64 0]) ?_ 3 _ rfl; (with_reducible repeat (first | refine bN40 ?_ _ | refine bD40 ?_ | refine bA40 ?_ _)); refine blk_put (cs := #[.int .i64 ((rd_T89 l0_2 x25_2).f0), .int .i64 ((rd_T89 l0_2 x25_2).f1), .int .i64 0, .int .i64 0, .int .i64 0]) ?_ 2 _ rfl; (with_reducible repeat (first | refine bN40 ?_ _ | refine bD40 ?_ | refine bA40 ?_ _)); refine blk_put (cs := #[.int .i64 ((rd_T89 l0_2 x25_2).f0), .int .i64 0, .int .i64 0, .int .i64 0, .int .i64 0]) ?_ 1 _ rfl; (with_reducible repeat (first | refine bN40 ?_ _ | refine bD40 ?_ | refine bA40 ?_ _)); refine blk_put (cs := #[.int .i64 0, .int .i64 0, .int .i64 0, .int .i64 0, .int .i64 0]) ?_ 0 _ rfl; (with_reducible repeat (first | refine bN40 ?_ _ | refine bD40 ?_ | refine bA40 ?_ _)); exact BK522.out) hb); have n2_ := Aside0.mk (eS40 (ne_ HB.out) hb); clear BK518; clear BK522; clear HB; have BK518 := n0_; have BK522 := n1_; have HB := n2_; clear n0_ n1_ n2_; (try clear hb); (try clear hb2); (try clear hk); (try clear hi); have hcz50_0 : w49.cell? ⟨gb518, 0, none⟩ = some (.int .i64 a0_0) := (bC40 BK518.out 0).trans rfl; have hcz50_1 : w49.cell? ⟨gb518, 1, none⟩ = some (.int .i64 a0_1) := (bC40 BK518.out 1).trans rfl; have hcz50_2 : w49.cell? ⟨gb518, 2, none⟩ = some (.slice (some ad521) l0_2.length c0_2) := (bC40 BK518.out 2).trans rfl; have hfz50_0 := blk_frozen BK518.out 0; have hfz50_1 := blk_frozen BK518.out 1; have hfz50_2 := blk_frozen BK518.out 2; have hcz51_0 : w49.cell? ⟨gb522, 0, none⟩ = some (.int .i64 ((rd_T89 l0_2 x25_2).f0)) := (bC40 BK522.out 0).trans rfl; have hcz51_1 : w49.cell? ⟨gb522, 1, none⟩ = some (.int .i64 ((rd_T89 l0_2 x25_2).f1)) := (bC40 BK522.out 1).trans rfl; have hcz51_2 : w49.cell? ⟨gb522, 2, none⟩ = some (.int .i64 ((rd_T89 l0_2 x25_2).f2)) := (bC40 BK522.out 2).trans rfl; have hcz51_3 : w49.cell? ⟨gb522, 3, none⟩ = some (.int .i64 ((rd_T89 l0_2 x25_2).f3)) := (bC40 BK522.out 3).trans rfl; have hcz51_4 : w49.cell? ⟨gb522, 4, none⟩ = some (.int .i64 ((rd_T89 l0_2 x25_2).f4)) := (bC40 BK522.out 4).trans rfl; have hfz51_0 := blk_frozen BK522.out 0; have hfz51_1 := blk_frozen BK522.out 1; have hfz51_2 := blk_frozen BK522.out 2; have hfz51_3 := blk_frozen BK522.out 3; have hfz51_4 := blk_frozen BK522.out 4) | (go_at_call 78; (with_reducible refine (impl_Plan_stop.calls a0_0 a0_1 _ _ l0_2 ((rd_T89 l0_2 x25_2).f1) true _ ?side1 ?side2 A22.out).mono ?_); (case side1 => exact nc_ (Kd.C_below HR0_2.out HB.out)); (case side2 => exact HC0_2.out); rintro e w52 ⟨rfl, hb⟩; have n0_ := Aside0.mk (bB40 (g := gb518) (o := .cells #[.int .i64 a0_0, .int .i64 a0_1, .slice (some ad521) l0_2.length c0_2] 54 (0, 0)) (nb_ BK518.out) hb); have n1_ := Aside0.mk (bB40 (g := gb522) (o := .cells #[.int .i64 ((rd_T89 l0_2 x25_2).f0), .int .i64 ((rd_T89 l0_2 x25_2).f1), .int .i64 ((rd_T89 l0_2 x25_2).f2), .int .i64 ((rd_T89 l0_2 x25_2).f3), .int .i64 ((rd_T89 l0_2 x25_2).f4)] 89 (0, 0)) (nb_ BK522.out) hb); have n2_ := Aside0.mk (eS40 (ne_ HB.out) hb); clear BK518; clear BK522; clear HB; have BK518 := n0_; have BK522 := n1_; have HB := n2_; clear n0_ n1_ n2_; (try clear hb); (try clear hb2); (try clear hk); (try clear hi); have hcz53_0 : w52.cell? ⟨gb522, 0, none⟩ = some (.int .i64 ((rd_T89 l0_2 x25_2).f0)) := (bC40 BK522.out 0).trans rfl; have hcz53_1 : w52.cell? ⟨gb522, 1, none⟩ = some (.int .i64 ((rd_T89 l0_2 x25_2).f1)) := (bC40 BK522.out 1).trans rfl; have hcz53_2 : w52.cell? ⟨gb522, 2, none⟩ = some (.int .i64 ((rd_T89 l0_2 x25_2).f2)) := (bC40 BK522.out 2).trans rfl; have hcz53_3 : w52.cell? ⟨gb522, 3, none⟩ = some (.int .i64 ((rd_T89 l0_2 x25_2).f3)) := (bC40 BK522.out 3).trans rfl; have hcz53_4 : w52.cell? ⟨gb522, 4, none⟩ = some (.int .i64 ((rd_T89 l0_2 x25_2).f4)) := (bC40 BK522.out 4).trans rfl; have hfz53_0 := blk_frozen BK522.out 0; have hfz53_1 := blk_frozen BK522.out 1; have hfz53_2 := blk_frozen BK522.out 2; have hfz53_3 := blk_frozen BK522.out 3; have hfz53_4 := blk_frozen BK522.out 4) | (go_at_call 79; (with_reducible refine (impl_Step_valid.calls ((rd_T89 l0_2 x25_2).f2) ((rd_T89 l0_2 x25_2).f3) false _ A33.out).mono ?_); rintro e w54 ⟨rfl, hb⟩; have n0_ := Aside0.mk (bB40 (g := gb518) (o := .cells #[.int .i64 a0_0, .int .i64 a0_1, .slice (some ad521) l0_2.length c0_2] 54 (0, 0)) (nb_ BK518.out) hb); have n1_ := Aside0.mk (bB40 (g := gb522) (o := .cells #[.int .i64 ((rd_T89 l0_2 x25_2).f0), .int .i64 ((rd_T89 l0_2 x25_2).f1), .int .i64 ((rd_T89 l0_2 x25_2).f2), .int .i64 ((rd_T89 l0_2 x25_2).f3), .int .i64 ((rd_T89 l0_2 x25_2).f4)] 89 (0, 0)) (nb_ BK522.out) hb); have n2_ := Aside0.mk (eS40 (ne_ HB.out) hb); clear BK518; clear BK522; clear HB; have BK518 := n0_; have BK522 := n1_; have HB := n2_; clear n0_ n1_ n2_; (try clear hb); (try clear hb2); (try clear hk); (try clear hi))); try go_wp2_with (first | (go_at_call 78; (with_reducible refine (impl_Plan_stop.calls a0_0 a0_1 _ _ l0_2 ((rd_T89 l0_2 x25_2).f0) true _ ?side1 ?side2 A20.out).mono ?_); (case side1 => exact Kd.C_below HR0_2.out (ne_ HB.out)); (case side2 => exact HC0_2.out); rintro e w49 ⟨rfl, hb⟩; have n0_ := Aside0.mk (bB40 (g := gb518) (o := .cells #[.int .i64 a0_0, .int .i64 a0_1, .slice (some ad521) l0_2.length c0_2] 54 (0, 0)) (nbf_ BK518.out) hb); have n1_ := Aside0.mk (bB40 (g := gb522) (o := .cells #[.int .i64 ((rd_T89 l0_2 x25_2).f0), .int .i64 ((rd_T89 l0_2 x25_2).f1), .int .i64 ((rd_T89 l0_2 x25_2).f2), .int .i64 ((rd_T89 l0_2 x25_2).f3), .int .i64 ((rd_T89 l0_2 x25_2).f4)] 89 (0, 0)) (by (with_reducible repeat (first | refine bN40 ?_ _ | refine bD40 ?_ | refine bA40 ?_ _)); refine blk_put (cs := #[.int .i64 ((rd_T89 l0_2 x25_2).f0), .int .i64 ((rd_T89 l0_2 x25_2).f1), .int .i64 ((rd_T89 l0_2 x25_2).f2), .int .i64 ((rd_T89 l0_2 x25_2).f3), .int .i64 0]) ?_ 4 _ rfl; (with_reducible repeat (first | refine bN40 ?_ _ | refine bD40 ?_ | refine bA40 ?_ _)); refine blk_put (cs := #[.int .i64 ((rd_T89 l0_2 x25_2).f0), .int .i64 ((rd_T89 l0_2 x25_2).f1), .int .i64 ((rd_T89 l0_2 x25_2).f2), .int .i64 0, .int .i64 0]) ?_ 3 _ rfl; (with_reducible repeat (first | refine bN40 ?_ _ | refine bD40 ?_ | refine bA40 ?_ _)); refine blk_put (cs := #[.int .i64 ((rd_T89 l0_2 x25_2).f0), .int .i64 ((rd_T89 l0_2 x25_2).f1), .int .i64 0, .int .i64 0, .int .i64 0]) ?_ 2 _ rfl; (with_reducible repeat (first | refine bN40 ?_ _ | refine bD40 ?_ | refine bA40 ?_ _)); refine blk_put (cs := #[.int .i64 ((rd_T89 l0_2 x25_2).f0), .int .i64 0, .int .i64 0, .int .i64 0, .int .i64 0]) ?_ 1 _ rfl; (with_reducible repeat (first | refine bN40 ?_ _ | refine bD40 ?_ | refine bA40 ?_ _)); refine blk_put (cs := #[.int .i64 0, .int .i64 0, .int .i64 0, .int .i64 0, .int .i64 0]) ?_ 0 _ rfl; (with_reducible repeat (first | refine bN40 ?_ _ | refine bD40 ?_ | refine bA40 ?_ _)); exact BK522.out) hb); have n2_ := Aside0.mk (eS40 (ne_ HB.out) hb); clear BK518; clear BK522; clear HB; have BK518 := n0_; have BK522 := n1_; have HB := n2_; clear n0_ n1_ n2_; (try clear hb); (try clear hb2); (try clear hk); (try clear hi); have hcz50_0 : w49.cell? ⟨gb518, 0, none⟩ = some (.int .i64 a0_0) := (bC40 BK518.out 0).trans rfl; have hcz50_1 : w49.cell? ⟨gb518, 1, none⟩ = some (.int .i64 a0_1) := (bC40 BK518.out 1).trans rfl; have hcz50_2 : w49.cell? ⟨gb518, 2, none⟩ = some (.slice (some ad521) l0_2.length c0_2) := (bC40 BK518.out 2).trans rfl; have hfz50_0 := blk_frozen BK518.out 0; have hfz50_1 := blk_frozen BK518.out 1; have hfz50_2 := blk_frozen BK518.out 2; have hcz51_0 : w49.cell? ⟨gb522, 0, none⟩ = some (.int .i64 ((rd_T89 l0_2 x25_2).f0)) := (bC40 BK522.out 0).trans rfl; have hcz51_1 : w49.cell? ⟨gb522, 1, none⟩ = some (.int .i64 ((rd_T89 l0_2 x25_2).f1)) := (bC40 BK522.out 1).trans rfl; have hcz51_2 : w49.cell? ⟨gb522, 2, none⟩ = some (.int .i64 ((rd_T89 l0_2 x25_2).f2)) := (bC40 BK522.out 2).trans rfl; have hcz51_3 : w49.cell? ⟨gb522, 3, none⟩ = some (.int .i64 ((rd_T89 l0_2 x25_2).f3)) := (bC40 BK522.out 3).trans rfl; have hcz51_4 : w49.cell? ⟨gb522, 4, none⟩ = some (.int .i64 ((rd_T89 l0_2 x25_2).f4)) := (bC40 BK522.out 4).trans rfl; have hfz51_0 := blk_frozen BK522.out 0; have hfz51_1 := blk_frozen BK522.out 1; have hfz51_2 := blk_frozen BK522.out 2; have hfz51_3 := blk_frozen BK522.out 3; have hfz51_4 := blk_frozen BK522.out 4) | (go_at_call 78; (with_reducible refine (impl_Plan_stop.calls a0_0 a0_1 _ _ l0_2 ((rd_T89 l0_2 x25_2).f1) true _ ?side1 ?side2 A22.out).mono ?_); (case side1 => exact nc_ (Kd.C_below HR0_2.out HB.out)); (case side2 => exact HC0_2.out); rintro e w52 ⟨rfl, hb⟩; have n0_ := Aside0.mk (bB40 (g := gb518) (o := .cells #[.int .i64 a0_0, .int .i64 a0_1, .slice (some ad521) l0_2.length c0_2] 54 (0, 0)) (nb_ BK518.out) hb); have n1_ := Aside0.mk (bB40 (g := gb522) (o := .cells #[.int .i64 ((rd_T89 l0_2 x25_2).f0), .int .i64 ((rd_T89 l0_2 x25_2).f1), .int .i64 ((rd_T89 l0_2 x25_2).f2), .int .i64 ((rd_T89 l0_2 x25_2).f3), .int .i64 ((rd_T89 l0_2 x25_2).f4)] 89 (0, 0)) (nb_ BK522.out) hb); have n2_ := Aside0.mk (eS40 (ne_ HB.out) hb); clear BK518; clear BK522; clear HB; have BK518 := n0_; have BK522 := n1_; have HB := n2_; clear n0_ n1_ n2_; (try clear hb); (try clear hb2); (try clear hk); (try clear hi); have hcz53_0 : w52.cell? ⟨gb522, 0, none⟩ = some (.int .i64 ((rd_T89 l0_2 x25_2).f0)) := (bC40 BK522.out 0).trans rfl; have hcz53_1 : w52.cell? ⟨gb522, 1, none⟩ = some (.int .i64 ((rd_T89 l0_2 x25_2).f1)) := (bC40 BK522.out 1).trans rfl; have hcz53_2 : w52.cell? ⟨gb522, 2, none⟩ = some (.int .i64 ((rd_T89 l0_2 x25_2).f2)) := (bC40 BK522.out 2).trans rfl; have hcz53_3 : w52.cell? ⟨gb522, 3, none⟩ = some (.int .i64 ((rd_T89 l0_2 x25_2).f3)) := (bC40 BK522.out 3).trans rfl; have hcz53_4 : w52.cell? ⟨gb522, 4, none⟩ = some (.int .i64 ((rd_T89 l0_2 x25_2).f4)) := (bC40 BK522.out 4).trans rfl; have hfz53_0 := blk_frozen BK522.out 0; have hfz53_1 := blk_frozen BK522.out 1; have hfz53_2 := blk_frozen BK522.out 2; have hfz53_3 := blk_frozen BK522.out 3; have hfz53_4 := blk_frozen BK522.out 4) | (go_at_call 79; (with_reducible refine (impl_Step_valid.calls ((rd_T89 l0_2 x25_2).f2) ((rd_T89 l0_2 x25_2).f3) false _ A33.out).mono ?_); rintro e w54 ⟨rfl, hb⟩; have n0_ := Aside0.mk (bB40 (g := gb518) (o := .cells #[.int .i64 a0_0, .int .i64 a0_1, .slice (some ad521) l0_2.length c0_2] 54 (0, 0)) (nb_ BK518.out) hb); have n1_ := Aside0.mk (bB40 (g := gb522) (o := .cells #[.int .i64 ((rd_T89 l0_2 x25_2).f0), .int .i64 ((rd_T89 l0_2 x25_2).f1), .int .i64 ((rd_T89 l0_2 x25_2).f2), .int .i64 ((rd_T89 l0_2 x25_2).f3), .int .i64 ((rd_T89 l0_2 x25_2).f4)] 89 (0, 0)) (nb_ BK522.out) hb); have n2_ := Aside0.mk (eS40 (ne_ HB.out) hb); clear BK518; clear BK522; clear HB; have BK518 := n0_; have BK522 := n1_; have HB := n2_; clear n0_ n1_ n2_; (try clear hb); (try clear hb2); (try clear hk); (try clear hi))))
               go_meet
               case rel => exact ⟨_, (true), ns_, H', ⟨by have := HJ1.out; have := HK2.out; first | omega | exact Nat.le_refl _⟩, ⟨by (with_reducible repeat (first | refine bN40 ?_ _ | refine bD40 ?_ | refine bA40 ?_ _)); exact BK518.out⟩, ⟨by (with_reducible repeat (first | refine bN40 ?_ _ | refine bD40 ?_ | refine bA40 ?_ _)); exact BK522.out⟩, ⟨by repeat (first | (with_reducible first | exact HB.out | apply below_alloc | apply pw_below_drewN | apply below_drew1 | refine below_set ?_ GE518.out | refine below_set ?_ GE522.out) | exact HB.out)⟩⟩
            ·replace c23 := Bool.eq_false_iff.mpr c23
             subst c23
             have H1 : (impl_PlanOk.j2 k2 x25_2 l0_2 (l0_2.length : Int) x25_2 true a0_0 a0_1 l0_2 ((rd_T89 l0_2 x25_2).f0) ((rd_T89 l0_2 x25_2).f1) ((rd_T89 l0_2 x25_2).f2) ((rd_T89 l0_2 x25_2).f3) ((rd_T89 l0_2 x25_2).f4)) = some r := by rw [if_neg (show ¬ (false = true) by decide)] at H; exact H
             clear H
             have H := H1
             clear H1
             have H' := Aside0.mk H
             clear H
             have hnb55 := NB518_522.out
             have hnc55 := NB522_518.out
             have hcz56_0 : w17.cell? ⟨gb518, 0, none⟩ = some (.int .i64 a0_0) := (bC40 BK518.out 0).trans rfl
             have hcz56_1 : w17.cell? ⟨gb518, 1, none⟩ = some (.int .i64 a0_1) := (bC40 BK518.out 1).trans rfl
             have hcz56_2 : w17.cell? ⟨gb518, 2, none⟩ = some (.slice (some ad521) l0_2.length c0_2) := (bC40 BK518.out 2).trans rfl
             have hfz56_0 := blk_frozen BK518.out 0
             have hfz56_1 := blk_frozen BK518.out 1
             have hfz56_2 := blk_frozen BK518.out 2
             have hcz57_0 : w17.cell? ⟨gb522, 0, none⟩ = some (.int .i64 0) := (bC40 BK522.out 0).trans rfl
             have hcz57_1 : w17.cell? ⟨gb522, 1, none⟩ = some (.int .i64 0) := (bC40 BK522.out 1).trans rfl
             have hcz57_2 : w17.cell? ⟨gb522, 2, none⟩ = some (.int .i64 0) := (bC40 BK522.out 2).trans rfl
             have hcz57_3 : w17.cell? ⟨gb522, 3, none⟩ = some (.int .i64 0) := (bC40 BK522.out 3).trans rfl
             have hcz57_4 : w17.cell? ⟨gb522, 4, none⟩ = some (.int .i64 0) := (bC40 BK522.out 4).trans rfl
             have hfz57_0 := blk_frozen BK522.out 0
             have hfz57_1 := blk_frozen BK522.out 1
             have hfz57_2 := blk_frozen BK522.out 2
             have hfz57_3 := blk_frozen BK522.out 3
             have hfz57_4 := blk_frozen BK522.out 4
             go_wp2_with (first | (go_at_call 78; (with_reducible refine (impl_Plan_stop.calls a0_0 a0_1 _ _ l0_2 ((rd_T89 l0_2 x25_2).f0) true _ ?side1 ?side2 A20.out).mono ?_); (case side1 => exact Kd.C_below HR0_2.out (ne_ HB.out)); (case side2 => exact HC0_2.out); rintro e w58 ⟨rfl, hb⟩; have n0_ := Aside0.mk (bB40 (g := gb518) (o := .cells #[.int .i64 a0_0, .int .i64 a0_1, .slice (some ad521) l0_2.length c0_2] 54 (0, 0)) (nbf_ BK518.out) hb); have n1_ := Aside0.mk (bB40 (g := gb522) (o := .cells #[.int .i64 ((rd_T89 l0_2 x25_2).f0), .int .i64 ((rd_T89 l0_2 x25_2).f1), .int .i64 ((rd_T89 l0_2 x25_2).f2), .int .i64 ((rd_T89 l0_2 x25_2).f3), .int .i64 ((rd_T89 l0_2 x25_2).f4)] 89 (0, 0)) (by (with_reducible repeat (first | refine bN40 ?_ _ | refine bD40 ?_ | refine bA40 ?_ _)); refine blk_put (cs := #[.int .i64 ((rd_T89 l0_2 x25_2).f0), .int .i64 ((rd_T89 l0_2 x25_2).f1), .int .i64 ((rd_T89 l0_2 x25_2).f2), .int .i64 ((rd_T89 l0_2 x25_2).f3), .int .i64 0]) ?_ 4 _ rfl; (with_reducible repeat (first | refine bN40 ?_ _ | refine bD40 ?_ | refine bA40 ?_ _)); refine blk_put (cs := #[.int .i64 ((rd_T89 l0_2 x25_2).f0), .int .i64 ((rd_T89 l0_2 x25_2).f1), .int .i64 ((rd_T89 l0_2 x25_2).f2), .int .i64 0, .int .i64 0]) ?_ 3 _ rfl; (with_reducible repeat (first | refine bN40 ?_ _ | refine bD40 ?_ | refine bA40 ?_ _)); refine blk_put (cs := #[.int .i64 ((rd_T89 l0_2 x25_2).f0), .int .i64 ((rd_T89 l0_2 x25_2).f1), .int .i64 0, .int .i64 0, .int .i64 0]) ?_ 2 _ rfl; (with_reducible repeat (first | refine bN40 ?_ _ | refine bD40 ?_ | refine bA40 ?_ _)); refine blk_put (cs := #[.int .i64 ((rd_T89 l0_2 x25_2).f0), .int .i64 0, .int .i64 0, .int .i64 0, .int .i64 0]) ?_ 1 _ rfl; (with_reducible repeat (first | refine bN40 ?_ _ | refine bD40 ?_ | refine bA40 ?_ _)); refine blk_put (cs := #[.int .i64 0, .int .i64 0, .int .i64 0, .int .i64 0, .int .i64 0]) ?_ 0 _ rfl; (with_reducible repeat (first | refine bN40 ?_ _ | refine bD40 ?_ | refine bA40 ?_ _)); exact BK522.out) hb); have n2_ := Aside0.mk (eS40 (ne_ HB.out) hb); clear BK518; clear BK522; clear HB; have BK518 := n0_; have BK522 := n1_; have HB := n2_; clear n0_ n1_ n2_; (try clear hb); (try clear hb2); (try clear hk); (try clear hi); have hcz59_0 : w58.cell? ⟨gb518, 0, none⟩ = some (.int .i64 a0_0) := (bC40 BK518.out 0).trans rfl; have hcz59_1 : w58.cell? ⟨gb518, 1, none⟩ = some (.int .i64 a0_1) := (bC40 BK518.out 1).trans rfl; have hcz59_2 : w58.cell? ⟨gb518, 2, none⟩ = some (.slice (some ad521) l0_2.length c0_2) := (bC40 BK518.out 2).trans rfl; have hfz59_0 := blk_frozen BK518.out 0; have hfz59_1 := blk_frozen BK518.out 1; have hfz59_2 := blk_frozen BK518.out 2; have hcz60_0 : w58.cell? ⟨gb522, 0, none⟩ = some (.int .i64 ((rd_T89 l0_2 x25_2).f0)) := (bC40 BK522.out 0).trans rfl; have hcz60_1 : w58.cell? ⟨gb522, 1, none⟩ = some (.int .i64 ((rd_T89 l0_2 x25_2).f1)) := (bC40 BK522.out 1).trans rfl; have hcz60_2 : w58.cell? ⟨gb522, 2, none⟩ = some (.int .i64 ((rd_T89 l0_2 x25_2).f2)) := (bC40 BK522.out 2).trans rfl; have hcz60_3 : w58.cell? ⟨gb522, 3, none⟩ = some (.int .i64 ((rd_T89 l0_2 x25_2).f3)) := (bC40 BK522.out 3).trans rfl; have hcz60_4 : w58.cell? ⟨gb522, 4, none⟩ = some (.int .i64 ((rd_T89 l0_2 x25_2).f4)) := (bC40 BK522.out 4).trans rfl; have hfz60_0 := blk_frozen BK522.out 0; have hfz60_1 := blk_frozen BK522.out 1; have hfz60_2 := blk_frozen BK522.out 2; have hfz60_3 := blk_frozen BK522.out 3; have hfz60_4 := blk_frozen BK522.out 4) | (go_at_call 78; (with_reducible refine (impl_Plan_stop.calls a0_0 a0_1 _ _ l0_2 ((rd_T89 l0_2 x25_2).f1) false _ ?side1 ?side2 A22.out).mono ?_); (case side1 => exact nc_ (Kd.C_below HR0_2.out HB.out)); (case side2 => exact HC0_2.out); rintro e w61 ⟨rfl, hb⟩; have n0_ := Aside0.mk (bB40 (g := gb518) (o := .cells #[.int .i64 a0_0, .int .i64 a0_1, .slice (some ad521) l0_2.length c0_2] 54 (0, 0)) (nb_ BK518.out) hb); have n1_ := Aside0.mk (bB40 (g := gb522) (o := .cells #[.int .i64 ((rd_T89 l0_2 x25_2).f0), .int .i64 ((rd_T89 l0_2 x25_2).f1), .int .i64 ((rd_T89 l0_2 x25_2).f2), .int .i64 ((rd_T89 l0_2 x25_2).f3), .int .i64 ((rd_T89 l0_2 x25_2).f4)] 89 (0, 0)) (nb_ BK522.out) hb); have n2_ := Aside0.mk (eS40 (ne_ HB.out) hb); clear BK518; clear BK522; clear HB; have BK518 := n0_; have BK522 := n1_; have HB := n2_; clear n0_ n1_ n2_; (try clear hb); (try clear hb2); (try clear hk); (try clear hi)))
             repeat (go_quiet (first | (go_at_call 78; (with_reducible refine (impl_Plan_stop.calls a0_0 a0_1 _ _ l0_2 ((rd_T89 l0_2 x25_2).f0) true _ ?side1 ?side2 A20.out).mono ?_); (case side1 => exact Kd.C_below HR0_2.out (ne_ HB.out)); (case side2 => exact HC0_2.out); rintro e w58 ⟨rfl, hb⟩; have n0_ := Aside0.mk (bB40 (g := gb518) (o := .cells #[.int .i64 a0_0, .int .i64 a0_1, .slice (some ad521) l0_2.length c0_2] 54 (0, 0)) (nbf_ BK518.out) hb); have n1_ := Aside0.mk (bB40 (g := gb522) (o := .cells #[.int .i64 ((rd_T89 l0_2 x25_2).f0), .int .i64 ((rd_T89 l0_2 x25_2).f1), .int .i64 ((rd_T89 l0_2 x25_2).f2), .int .i64 ((rd_T89 l0_2 x25_2).f3), .int .i64 ((rd_T89 l0_2 x25_2).f4)] 89 (0, 0)) (by (with_reducible repeat (first | refine bN40 ?_ _ | refine bD40 ?_ | refine bA40 ?_ _)); refine blk_put (cs := #[.int .i64 ((rd_T89 l0_2 x25_2).f0), .int .i64 ((rd_T89 l0_2 x25_2).f1), .int .i64 ((rd_T89 l0_2 x25_2).f2), .int .i64 ((rd_T89 l0_2 x25_2).f3), .int .i64 0]) ?_ 4 _ rfl; (with_reducible repeat (first | refine bN40 ?_ _ | refine bD40 ?_ | refine bA40 ?_ _)); refine blk_put (cs := #[.int .i64 ((rd_T89 l0_2 x25_2).f0), .int .i64 ((rd_T89 l0_2 x25_2).f1), .int .i64 ((rd_T89 l0_2 x25_2).f2), .int .i64 0, .int .i64 0]) ?_ 3 _ rfl; (with_reducible repeat (first | refine bN40 ?_ _ | refine bD40 ?_ | refine bA40 ?_ _)); refine blk_put (cs := #[.int .i64 ((rd_T89 l0_2 x25_2).f0), .int .i64 ((rd_T89 l0_2 x25_2).f1), .int .i64 0, .int .i64 0, .int .i64 0]) ?_ 2 _ rfl; (with_reducible repeat (first | refine bN40 ?_ _ | refine bD40 ?_ | refine bA40 ?_ _)); refine blk_put (cs := #[.int .i64 ((rd_T89 l0_2 x25_2).f0), .int .i64 0, .int .i64 0, .int .i64 0, .int .i64 0]) ?_ 1 _ rfl; (with_reducible repeat (first | refine bN40 ?_ _ | refine bD40 ?_ | refine bA40 ?_ _)); refine blk_put (cs := #[.int .i64 0, .int .i64 0, .int .i64 0, .int .i64 0, .int .i64 0]) ?_ 0 _ rfl; (with_reducible repeat (first | refine bN40 ?_ _ | refine bD40 ?_ | refine bA40 ?_ _)); exact BK522.out) hb); have n2_ := Aside0.mk (eS40 (ne_ HB.out) hb); clear BK518; clear BK522; clear HB; have BK518 := n0_; have BK522 := n1_; have HB := n2_; clear n0_ n1_ n2_; (try clear hb); (try clear hb2); (try clear hk); (try clear hi); have hcz59_0 : w58.cell? ⟨gb518, 0, none⟩ = some (.int .i64 a0_0) := (bC40 BK518.out 0).trans rfl; have hcz59_1 : w58.cell? ⟨gb518, 1, none⟩ = some (.int .i64 a0_1) := (bC40 BK518.out 1).trans rfl; have hcz59_2 : w58.cell? ⟨gb518, 2, none⟩ = some (.slice (some ad521) l0_2.length c0_2) := (bC40 BK518.out 2).trans rfl; have hfz59_0 := blk_frozen BK518.out 0; have hfz59_1 := blk_frozen BK518.out 1; have hfz59_2 := blk_frozen BK518.out 2; have hcz60_0 : w58.cell? ⟨gb522, 0, none⟩ = some (.int .i64 ((rd_T89 l0_2 x25_2).f0)) := (bC40 BK522.out 0).trans rfl; have hcz60_1 : w58.cell? ⟨gb522, 1, none⟩ = some (.int .i64 ((rd_T89 l0_2 x25_2).f1)) := (bC40 BK522.out 1).trans rfl; have hcz60_2 : w58.cell? ⟨gb522, 2, none⟩ = some (.int .i64 ((rd_T89 l0_2 x25_2).f2)) := (bC40 BK522.out 2).trans rfl; have hcz60_3 : w58.cell? ⟨gb522, 3, none⟩ = some (.int .i64 ((rd_T89 l0_2 x25_2).f3)) := (bC40 BK522.out 3).trans rfl; have hcz60_4 : w58.cell? ⟨gb522, 4, none⟩ = some (.int .i64 ((rd_T89 l0_2 x25_2).f4)) := (bC40 BK522.out 4).trans rfl; have hfz60_0 := blk_frozen BK522.out 0; have hfz60_1 := blk_frozen BK522.out 1; have hfz60_2 := blk_frozen BK522.out 2; have hfz60_3 := blk_frozen BK522.out 3; have hfz60_4 := blk_frozen BK522.out 4) | (go_at_call 78; (with_reducible refine (impl_Plan_stop.calls a0_0 a0_1 _ _ l0_2 ((rd_T89 l0_2 x25_2).f1) false _ ?side1 ?side2 A22.out).mono ?_); (case side1 => exact nc_ (Kd.C_below HR0_2.out HB.out)); (case side2 => exact HC0_2.out); rintro e w61 ⟨rfl, hb⟩; have n0_ := Aside0.mk (bB40 (g := gb518) (o := .cells #[.int .i64 a0_0, .int .i64 a0_1, .slice (some ad521) l0_2.length c0_2] 54 (0, 0)) (nb_ BK518.out) hb); have n1_ := Aside0.mk (bB40 (g := gb522) (o := .cells #[.int .i64 ((rd_T89 l0_2 x25_2).f0), .int .i64 ((rd_T89 l0_2 x25_2).f1), .int .i64 ((rd_T89 l0_2 x25_2).f2), .int .i64 ((rd_T89 l0_2 x25_2).f3), .int .i64 ((rd_T89 l0_2 x25_2).f4)] 89 (0, 0)) (nb_ BK522.out) hb); have n2_ := Aside0.mk (eS40 (ne_ HB.out) hb); clear BK518; clear BK522; clear HB; have BK518 := n0_; have BK522 := n1_; have HB := n2_; clear n0_ n1_ n2_; (try clear hb); (try clear hb2); (try clear hk); (try clear hi))); try go_wp2_with (first | (go_at_call 78; (with_reducible refine (impl_Plan_stop.calls a0_0 a0_1 _ _ l0_2 ((rd_T89 l0_2 x25_2).f0) true _ ?side1 ?side2 A20.out).mono ?_); (case side1 => exact Kd.C_below HR0_2.out (ne_ HB.out)); (case side2 => exact HC0_2.out); rintro e w58 ⟨rfl, hb⟩; have n0_ := Aside0.mk (bB40 (g := gb518) (o := .cells #[.int .i64 a0_0, .int .i64 a0_1, .slice (some ad521) l0_2.length c0_2] 54 (0, 0)) (nbf_ BK518.out) hb); have n1_ := Aside0.mk (bB40 (g := gb522) (o := .cells #[.int .i64 ((rd_T89 l0_2 x25_2).f0), .int .i64 ((rd_T89 l0_2 x25_2).f1), .int .i64 ((rd_T89 l0_2 x25_2).f2), .int .i64 ((rd_T89 l0_2 x25_2).f3), .int .i64 ((rd_T89 l0_2 x25_2).f4)] 89 (0, 0)) (by (with_reducible repeat (first | refine bN40 ?_ _ | refine bD40 ?_ | refine bA40 ?_ _)); refine blk_put (cs := #[.int .i64 ((rd_T89 l0_2 x25_2).f0), .int .i64 ((rd_T89 l0_2 x25_2).f1), .int .i64 ((rd_T89 l0_2 x25_2).f2), .int .i64 ((rd_T89 l0_2 x25_2).f3), .int .i64 0]) ?_ 4 _ rfl; (with_reducible repeat (first | refine bN40 ?_ _ | refine bD40 ?_ | refine bA40 ?_ _)); refine blk_put (cs := #[.int .i64 ((rd_T89 l0_2 x25_2).f0), .int .i64 ((rd_T89 l0_2 x25_2).f1), .int .i64 ((rd_T89 l0_2 x25_2).f2), .int .i64 0, .int .i64 0]) ?_ 3 _ rfl; (with_reducible repeat (first | refine bN40 ?_ _ | refine bD40 ?_ | refine bA40 ?_ _)); refine blk_put (cs := #[.int .i64 ((rd_T89 l0_2 x25_2).f0), .int .i64 ((rd_T89 l0_2 x25_2).f1), .int .i64 0, .int .i64 0, .int .i64 0]) ?_ 2 _ rfl; (with_reducible repeat (first | refine bN40 ?_ _ | refine bD40 ?_ | refine bA40 ?_ _)); refine blk_put (cs := #[.int .i64 ((rd_T89 l0_2 x25_2).f0), .int .i64 0, .int .i64 0, .int .i64 0, .int .i64 0]) ?_ 1 _ rfl; (with_reducible repeat (first | refine bN40 ?_ _ | refine bD40 ?_ | refine bA40 ?_ _)); refine blk_put (cs := #[.int .i64 0, .int .i64 0, .int .i64 0, .int .i64 0, .int .i64 0]) ?_ 0 _ rfl; (with_reducible repeat (first | refine bN40 ?_ _ | refine bD40 ?_ | refine bA40 ?_ _)); exact BK522.out) hb); have n2_ := Aside0.mk (eS40 (ne_ HB.out) hb); clear BK518; clear BK522; clear HB; have BK518 := n0_; have BK522 := n1_; have HB := n2_; clear n0_ n1_ n2_; (try clear hb); (try clear hb2); (try clear hk); (try clear hi); have hcz59_0 : w58.cell? ⟨gb518, 0, none⟩ = some (.int .i64 a0_0) := (bC40 BK518.out 0).trans rfl; have hcz59_1 : w58.cell? ⟨gb518, 1, none⟩ = some (.int .i64 a0_1) := (bC40 BK518.out 1).trans rfl; have hcz59_2 : w58.cell? ⟨gb518, 2, none⟩ = some (.slice (some ad521) l0_2.length c0_2) := (bC40 BK518.out 2).trans rfl; have hfz59_0 := blk_frozen BK518.out 0; have hfz59_1 := blk_frozen BK518.out 1; have hfz59_2 := blk_frozen BK518.out 2; have hcz60_0 : w58.cell? ⟨gb522, 0, none⟩ = some (.int .i64 ((rd_T89 l0_2 x25_2).f0)) := (bC40 BK522.out 0).trans rfl; have hcz60_1 : w58.cell? ⟨gb522, 1, none⟩ = some (.int .i64 ((rd_T89 l0_2 x25_2).f1)) := (bC40 BK522.out 1).trans rfl; have hcz60_2 : w58.cell? ⟨gb522, 2, none⟩ = some (.int .i64 ((rd_T89 l0_2 x25_2).f2)) := (bC40 BK522.out 2).trans rfl; have hcz60_3 : w58.cell? ⟨gb522, 3, none⟩ = some (.int .i64 ((rd_T89 l0_2 x25_2).f3)) := (bC40 BK522.out 3).trans rfl; have hcz60_4 : w58.cell? ⟨gb522, 4, none⟩ = some (.int .i64 ((rd_T89 l0_2 x25_2).f4)) := (bC40 BK522.out 4).trans rfl; have hfz60_0 := blk_frozen BK522.out 0; have hfz60_1 := blk_frozen BK522.out 1; have hfz60_2 := blk_frozen BK522.out 2; have hfz60_3 := blk_frozen BK522.out 3; have hfz60_4 := blk_frozen BK522.out 4) | (go_at_call 78; (with_reducible refine (impl_Plan_stop.calls a0_0 a0_1 _ _ l0_2 ((rd_T89 l0_2 x25_2).f1) false _ ?side1 ?side2 A22.out).mono ?_); (case side1 => exact nc_ (Kd.C_below HR0_2.out HB.out)); (case side2 => exact HC0_2.out); rintro e w61 ⟨rfl, hb⟩; have n0_ := Aside0.mk (bB40 (g := gb518) (o := .cells #[.int .i64 a0_0, .int .i64 a0_1, .slice (some ad521) l0_2.length c0_2] 54 (0, 0)) (nb_ BK518.out) hb); have n1_ := Aside0.mk (bB40 (g := gb522) (o := .cells #[.int .i64 ((rd_T89 l0_2 x25_2).f0), .int .i64 ((rd_T89 l0_2 x25_2).f1), .int .i64 ((rd_T89 l0_2 x25_2).f2), .int .i64 ((rd_T89 l0_2 x25_2).f3), .int .i64 ((rd_T89 l0_2 x25_2).f4)] 89 (0, 0)) (nb_ BK522.out) hb); have n2_ := Aside0.mk (eS40 (ne_ HB.out) hb); clear BK518; clear BK522; clear HB; have BK518 := n0_; have BK522 := n1_; have HB := n2_; clear n0_ n1_ n2_; (try clear hb); (try clear hb2); (try clear hk); (try clear hi))))
             go_meet
             case rel => exact ⟨_, (true), ns_, H', ⟨by have := HJ1.out; have := HK2.out; first | omega | exact Nat.le_refl _⟩, ⟨by (with_reducible repeat (first | refine bN40 ?_ _ | refine bD40 ?_ | refine bA40 ?_ _)); exact BK518.out⟩, ⟨by (with_reducible repeat (first | refine bN40 ?_ _ | refine bD40 ?_ | refine bA40 ?_ _)); exact BK522.out⟩, ⟨by repeat (first | (with_reducible first | exact HB.out | apply below_alloc | apply pw_below_drewN | apply below_drew1 | refine below_set ?_ GE518.out | refine below_set ?_ GE522.out) | exact HB.out)⟩⟩
           ·replace c21 := Bool.eq_false_iff.mpr c21
            subst c21
            have H1 : (impl_PlanOk.j2 k2 x25_2 l0_2 (l0_2.length : Int) x25_2 true a0_0 a0_1 l0_2 ((rd_T89 l0_2 x25_2).f0) ((rd_T89 l0_2 x25_2).f1) ((rd_T89 l0_2 x25_2).f2) ((rd_T89 l0_2 x25_2).f3) ((rd_T89 l0_2 x25_2).f4)) = some r := by rw [if_neg (show ¬ (false = true) by decide)] at H; exact H
            clear H
            have H := H1
            clear H1
            have H' := Aside0.mk H
            clear H
            have hnb62 := NB518_522.out
            have hnc62 := NB522_518.out
            have hcz63_0 : w17.cell? ⟨gb518, 0, none⟩ = some (.int .i64 a0_0) := (bC40 BK518.out 0).trans rfl
            have hcz63_1 : w17.cell? ⟨gb518, 1, none⟩ = some (.int .i64 a0_1) := (bC40 BK518.out 1).trans rfl
            have hcz63_2 : w17.cell? ⟨gb518, 2, none⟩ = some (.slice (some ad521) l0_2.length c0_2) := (bC40 BK518.out 2).trans rfl
            have hfz63_0 := blk_frozen BK518.out 0
            have hfz63_1 := blk_frozen BK518.out 1
            have hfz63_2 := blk_frozen BK518.out 2
            have hcz64_0 : w17.cell? ⟨gb522, 0, none⟩ = some (.int .i64 0) := (bC40 BK522.out 0).trans rfl
            have hcz64_1 : w17.cell? ⟨gb522, 1, none⟩ = some (.int .i64 0) := (bC40 BK522.out 1).trans rfl
            have hcz64_2 : w17.cell? ⟨gb522, 2, none⟩ = some (.int .i64 0) := (bC40 BK522.out 2).trans rfl
            have hcz64_3 : w17.cell? ⟨gb522, 3, none⟩ = some (.int .i64 0) := (bC40 BK522.out 3).trans rfl
            have hcz64_4 : w17.cell? ⟨gb522, 4, none⟩ = some (.int .i64 0) := (bC40 BK522.out 4).trans rfl
            have hfz64_0 := blk_frozen BK522.out 0
            have hfz64_1 := blk_frozen BK522.out 1
            have hfz64_2 := blk_frozen BK522.out 2
            have hfz64_3 := blk_frozen BK522.out 3
            have hfz64_4 := blk_frozen BK522.out 4
            go_wp2_with (first | (go_at_call 78; (with_reducible refine (impl_Plan_stop.calls a0_0 a0_1 _ _ l0_2 ((rd_T89 l0_2 x25_2).f0) false _ ?side1 ?side2 A20.out).mono ?_); (case side1 => exact Kd.C_below HR0_2.out (ne_ HB.out)); (case side2 => exact HC0_2.out); rintro e w65 ⟨rfl, hb⟩; have n0_ := Aside0.mk (bB40 (g := gb518) (o := .cells #[.int .i64 a0_0, .int .i64 a0_1, .slice (some ad521) l0_2.length c0_2] 54 (0, 0)) (nbf_ BK518.out) hb); have n1_ := Aside0.mk (bB40 (g := gb522) (o := .cells #[.int .i64 ((rd_T89 l0_2 x25_2).f0), .int .i64 ((rd_T89 l0_2 x25_2).f1), .int .i64 ((rd_T89 l0_2 x25_2).f2), .int .i64 ((rd_T89 l0_2 x25_2).f3), .int .i64 ((rd_T89 l0_2 x25_2).f4)] 89 (0, 0)) (by (with_reducible repeat (first | refine bN40 ?_ _ | refine bD40 ?_ | refine bA40 ?_ _)); refine blk_put (cs := #[.int .i64 ((rd_T89 l0_2 x25_2).f0), .int .i64 ((rd_T89 l0_2 x25_2).f1), .int .i64 ((rd_T89 l0_2 x25_2).f2), .int .i64 ((rd_T89 l0_2 x25_2).f3), .int .i64 0]) ?_ 4 _ rfl; (with_reducible repeat (first | refine bN40 ?_ _ | refine bD40 ?_ | refine bA40 ?_ _)); refine blk_put (cs := #[.int .i64 ((rd_T89 l0_2 x25_2).f0), .int .i64 ((rd_T89 l0_2 x25_2).f1), .int .i64 ((rd_T89 l0_2 x25_2).f2), .int .i64 0, .int .i64 0]) ?_ 3 _ rfl; (with_reducible repeat (first | refine bN40 ?_ _ | refine bD40 ?_ | refine bA40 ?_ _)); refine blk_put (cs := #[.int .i64 ((rd_T89 l0_2 x25_2).f0), .int .i64 ((rd_T89 l0_2 x25_2).f1), .int .i64 0, .int .i64 0, .int .i64 0]) ?_ 2 _ rfl; (with_reducible repeat (first | refine bN40 ?_ _ | refine bD40 ?_ | refine bA40 ?_ _)); refine blk_put (cs := #[.int .i64 ((rd_T89 l0_2 x25_2).f0), .int .i64 0, .int .i64 0, .int .i64 0, .int .i64 0]) ?_ 1 _ rfl; (with_reducible repeat (first | refine bN40 ?_ _ | refine bD40 ?_ | refine bA40 ?_ _)); refine blk_put (cs := #[.int .i64 0, .int .i64 0, .int .i64 0, .int .i64 0, .int .i64 0]) ?_ 0 _ rfl; (with_reducible repeat (first | refine bN40 ?_ _ | refine bD40 ?_ | refine bA40 ?_ _)); exact BK522.out) hb); have n2_ := Aside0.mk (eS40 (ne_ HB.out) hb); clear BK518; clear BK522; clear HB; have BK518 := n0_; have BK522 := n1_; have HB := n2_; clear n0_ n1_ n2_; (try clear hb); (try clear hb2); (try clear hk); (try clear hi)))
            repeat (go_quiet (first | (go_at_call 78; (with_reducible refine (impl_Plan_stop.calls a0_0 a0_1 _ _ l0_2 ((rd_T89 l0_2 x25_2).f0) false _ ?side1 ?side2 A20.out).mono ?_); (case side1 => exact Kd.C_below HR0_2.out (ne_ HB.out)); (case side2 => exact HC0_2.out); rintro e w65 ⟨rfl, hb⟩; have n0_ := Aside0.mk (bB40 (g := gb518) (o := .cells #[.int .i64 a0_0, .int .i64 a0_1, .slice (some ad521) l0_2.length c0_2] 54 (0, 0)) (nbf_ BK518.out) hb); have n1_ := Aside0.mk (bB40 (g := gb522) (o := .cells #[.int .i64 ((rd_T89 l0_2 x25_2).f0), .int .i64 ((rd_T89 l0_2 x25_2).f1), .int .i64 ((rd_T89 l0_2 x25_2).f2), .int .i64 ((rd_T89 l0_2 x25_2).f3), .int .i64 ((rd_T89 l0_2 x25_2).f4)] 89 (0, 0)) (by (with_reducible repeat (first | refine bN40 ?_ _ | refine bD40 ?_ | refine bA40 ?_ _)); refine blk_put (cs := #[.int .i64 ((rd_T89 l0_2 x25_2).f0), .int .i64 ((rd_T89 l0_2 x25_2).f1), .int .i64 ((rd_T89 l0_2 x25_2).f2), .int .i64 ((rd_T89 l0_2 x25_2).f3), .int .i64 0]) ?_ 4 _ rfl; (with_reducible repeat (first | refine bN40 ?_ _ | refine bD40 ?_ | refine bA40 ?_ _)); refine blk_put (cs := #[.int .i64 ((rd_T89 l0_2 x25_2).f0), .int .i64 ((rd_T89 l0_2 x25_2).f1), .int .i64 ((rd_T89 l0_2 x25_2).f2), .int .i64 0, .int .i64 0]) ?_ 3 _ rfl; (with_reducible repeat (first | refine bN40 ?_ _ | refine bD40 ?_ | refine bA40 ?_ _)); refine blk_put (cs := #[.int .i64 ((rd_T89 l0_2 x25_2).f0), .int .i64 ((rd_T89 l0_2 x25_2).f1), .int .i64 0, .int .i64 0, .int .i64 0]) ?_ 2 _ rfl; (with_reducible repeat (first | refine bN40 ?_ _ | refine bD40 ?_ | refine bA40 ?_ _)); refine blk_put (cs := #[.int .i64 ((rd_T89 l0_2 x25_2).f0), .int .i64 0, .int .i64 0, .int .i64 0, .int .i64 0]) ?_ 1 _ rfl; (with_reducible repeat (first | refine bN40 ?_ _ | refine bD40 ?_ | refine bA40 ?_ _)); refine blk_put (cs := #[.int .i64 0, .int .i64 0, .int .i64 0, .int .i64 0, .int .i64 0]) ?_ 0 _ rfl; (with_reducible repeat (first | refine bN40 ?_ _ | refine bD40 ?_ | refine bA40 ?_ _)); exact BK522.out) hb); have n2_ := Aside0.mk (eS40 (ne_ HB.out) hb); clear BK518; clear BK522; clear HB; have BK518 := n0_; have BK522 := n1_; have HB := n2_; clear n0_ n1_ n2_; (try clear hb); (try clear hb2); (try clear hk); (try clear hi))); try go_wp2_with (first | (go_at_call 78; (with_reducible refine (impl_Plan_stop.calls a0_0 a0_1 _ _ l0_2 ((rd_T89 l0_2 x25_2).f0) false _ ?side1 ?side2 A20.out).mono ?_); (case side1 => exact Kd.C_below HR0_2.out (ne_ HB.out)); (case side2 => exact HC0_2.out); rintro e w65 ⟨rfl, hb⟩; have n0_ := Aside0.mk (bB40 (g := gb518) (o := .cells #[.int .i64 a0_0, .int .i64 a0_1, .slice (some ad521) l0_2.length c0_2] 54 (0, 0)) (nbf_ BK518.out) hb); have n1_ := Aside0.mk (bB40 (g := gb522) (o := .cells #[.int .i64 ((rd_T89 l0_2 x25_2).f0), .int .i64 ((rd_T89 l0_2 x25_2).f1), .int .i64 ((rd_T89 l0_2 x25_2).f2), .int .i64 ((rd_T89 l0_2 x25_2).f3), .int .i64 ((rd_T89 l0_2 x25_2).f4)] 89 (0, 0)) (by (with_reducible repeat (first | refine bN40 ?_ _ | refine bD40 ?_ | refine bA40 ?_ _)); refine blk_put (cs := #[.int .i64 ((rd_T89 l0_2 x25_2).f0), .int .i64 ((rd_T89 l0_2 x25_2).f1), .int .i64 ((rd_T89 l0_2 x25_2).f2), .int .i64 ((rd_T89 l0_2 x25_2).f3), .int .i64 0]) ?_ 4 _ rfl; (with_reducible repeat (first | refine bN40 ?_ _ | refine bD40 ?_ | refine bA40 ?_ _)); refine blk_put (cs := #[.int .i64 ((rd_T89 l0_2 x25_2).f0), .int .i64 ((rd_T89 l0_2 x25_2).f1), .int .i64 ((rd_T89 l0_2 x25_2).f2), .int .i64 0, .int .i64 0]) ?_ 3 _ rfl; (with_reducible repeat (first | refine bN40 ?_ _ | refine bD40 ?_ | refine bA40 ?_ _)); refine blk_put (cs := #[.int .i64 ((rd_T89 l0_2 x25_2).f0), .int .i64 ((rd_T89 l0_2 x25_2).f1), .int .i64 0, .int .i64 0, .int .i64 0]) ?_ 2 _ rfl; (with_reducible repeat (first | refine bN40 ?_ _ | refine bD40 ?_ | refine bA40 ?_ _)); refine blk_put (cs := #[.int .i64 ((rd_T89 l0_2 x25_2).f0), .int .i64 0, .int .i64 0, .int .i64 0, .int .i64 0]) ?_ 1 _ rfl; (with_reducible repeat (first | refine bN40 ?_ _ | refine bD40 ?_ | refine bA40 ?_ _)); refine blk_put (cs := #[.int .i64 0, .int .i64 0, .int .i64 0, .int .i64 0, .int .i64 0]) ?_ 0 _ rfl; (with_reducible repeat (first | refine bN40 ?_ _ | refine bD40 ?_ | refine bA40 ?_ _)); exact BK522.out) hb); have n2_ := Aside0.mk (eS40 (ne_ HB.out) hb); clear BK518; clear BK522; clear HB; have BK518 := n0_; have BK522 := n1_; have HB := n2_; clear n0_ n1_ n2_; (try clear hb); (try clear hb2); (try clear hk); (try clear hi))))
            go_meet
            case rel => exact ⟨_, (true), ns_, H', ⟨by have := HJ1.out; have := HK2.out; first | omega | exact Nat.le_refl _⟩, ⟨by (with_reducible repeat (first | refine bN40 ?_ _ | refine bD40 ?_ | refine bA40 ?_ _)); exact BK518.out⟩, ⟨by (with_reducible repeat (first | refine bN40 ?_ _ | refine bD40 ?_ | refine bA40 ?_ _)); exact BK522.out⟩, ⟨by repeat (first | (with_reducible first | exact HB.out | apply below_alloc | apply pw_below_drewN | apply below_drew1 | refine below_set ?_ GE518.out | refine below_set ?_ GE522.out) | exact HB.out)⟩⟩
          case rest =>
           clear HC16
           try clear c1
           try clear c2
           try clear p2
           try clear c3
           try clear c4
           try clear c5
           try clear p5
           try clear q5
           try clear hx5
           try clear c6
           try clear c7
           try clear c11
           try clear c13
           try clear c13b0
           try clear c14
           try clear c14b0
           try clear c15
           try clear c15b0
           try clear c18
           try clear c21
           try clear c23
           try clear c24
           try clear c24b0
           try clear c24b1
           try clear c25
           try clear c34
           try clear c36
           try clear c40
           try clear c46
           try clear p52
           try clear q52
           try clear hx52
           try clear c55
           try clear c62
           try clear hcz10_0
           try clear hcz10_1
           try clear hcz10_2
           try clear hcz12_0
           try clear hcz12_1
           try clear hcz12_2
           try clear hcz19_0
           try clear hcz19_1
           try clear hcz19_2
           try clear hcz19_3
           try clear hcz19_4
           try clear hcz26_0
           try clear hcz26_1
           try clear hcz26_2
           try clear hcz27_0
           try clear hcz27_1
           try clear hcz27_2
           try clear hcz27_3
           try clear hcz27_4
           try clear hcz29_0
           try clear hcz29_1
           try clear hcz29_2
           try clear hcz30_0
           try clear hcz30_1
           try clear hcz30_2
           try clear hcz30_3
           try clear hcz30_4
           try clear hcz32_0
           try clear hcz32_1
           try clear hcz32_2
           try clear hcz32_3
           try clear hcz32_4
           try clear hcz37_0
           try clear hcz37_1
           try clear hcz37_2
           try clear hcz38_0
           try clear hcz38_1
           try clear hcz38_2
           try clear hcz38_3
           try clear hcz38_4
           try clear hcz40_0
           try clear hcz40_1
           try clear hcz40_2
           try clear hcz41_0
           try clear hcz41_1
           try clear hcz41_2
           try clear hcz41_3
           try clear hcz41_4
           try clear hcz43_0
           try clear hcz43_1
           try clear hcz43_2
           try clear hcz43_3
           try clear hcz43_4
           try clear hcz45_0
           try clear hcz45_1
           try clear hcz45_2
           try clear hcz45_3
           try clear hcz45_4
           try clear hcz47_0
           try clear hcz47_1
           try clear hcz47_2
           try clear hcz48_0
           try clear hcz48_1
           try clear hcz48_2
           try clear hcz48_3
           try clear hcz48_4
           try clear hcz50_0
           try clear hcz50_1
           try clear hcz50_2
           try clear hcz51_0
           try clear hcz51_1
           try clear hcz51_2
           try clear hcz51_3
           try clear hcz51_4
           try clear hcz53_0
           try clear hcz53_1
           try clear hcz53_2
           try clear hcz53_3
           try clear hcz53_4
           try clear hcz56_0
           try clear hcz56_1
           try clear hcz56_2
           try clear hcz57_0
           try clear hcz57_1
           try clear hcz57_2
           try clear hcz57_3
           try clear hcz57_4
           try clear hcz59_0
           try clear hcz59_1
           try clear hcz59_2
           try clear hcz60_0
           try clear hcz60_1
           try clear hcz60_2
           try clear hcz60_3
           try clear hcz60_4
           try clear hcz63_0
           try clear hcz63_1
           try clear hcz63_2
           try clear hcz64_0
           try clear hcz64_1
           try clear hcz64_2
           try clear hcz64_3
           try clear hcz64_4
           try clear hcz8_0
           try clear hcz8_1
           try clear hcz8_2
           try clear hcz9_0
           try clear hcz9_1
           try clear hcz9_2
           try clear hfz10_0
           try clear hfz10_1
           try clear hfz10_2
           try clear hfz12_0
           try clear hfz12_1
           try clear hfz12_2
           try clear hfz19_0
           try clear hfz19_1
           try clear hfz19_2
           try clear hfz19_3
           try clear hfz19_4
           try clear hfz26_0
           try clear hfz26_1
           try clear hfz26_2
           try clear hfz27_0
           try clear hfz27_1
           try clear hfz27_2
           try clear hfz27_3
           try clear hfz27_4
           try clear hfz29_0
           try clear hfz29_1
           try clear hfz29_2
           try clear hfz30_0
           try clear hfz30_1
           try clear hfz30_2
           try clear hfz30_3
           try clear hfz30_4
           try clear hfz32_0
           try clear hfz32_1
           try clear hfz32_2
           try clear hfz32_3
           try clear hfz32_4
           try clear hfz37_0
           try clear hfz37_1
           try clear hfz37_2
           try clear hfz38_0
           try clear hfz38_1
           try clear hfz38_2
           try clear hfz38_3
           try clear hfz38_4
           try clear hfz40_0
           try clear hfz40_1
           try clear hfz40_2
           try clear hfz41_0
           try clear hfz41_1
           try clear hfz41_2
           try clear hfz41_3
           try clear hfz41_4
           try clear hfz43_0
           try clear hfz43_1
           try clear hfz43_2
           try clear hfz43_3
           try clear hfz43_4
           try clear hfz45_0
           try clear hfz45_1
           try clear hfz45_2
           try clear hfz45_3
           try clear hfz45_4
           try clear hfz47_0
           try clear hfz47_1
           try clear hfz47_2
           try clear hfz48_0
           try clear hfz48_1
           try clear hfz48_2
           try clear hfz48_3
           try clear hfz48_4
           try clear hfz50_0
           try clear hfz50_1
           try clear hfz50_2
           try clear hfz51_0
           try clear hfz51_1
           try clear hfz51_2
           try clear hfz51_3
           try clear hfz51_4
           try clear hfz53_0
           try clear hfz53_1
           try clear hfz53_2
           try clear hfz53_3
           try clear hfz53_4
           try clear hfz56_0
           try clear hfz56_1
           try clear hfz56_2
           try clear hfz57_0
           try clear hfz57_1
           try clear hfz57_2
           try clear hfz57_3
           try clear hfz57_4
           try clear hfz59_0
           try clear hfz59_1
           try clear hfz59_2
           try clear hfz60_0
           try clear hfz60_1
           try clear hfz60_2
           try clear hfz60_3
           try clear hfz60_4
           try clear hfz63_0
           try clear hfz63_1
           try clear hfz63_2
           try clear hfz64_0
           try clear hfz64_1
           try clear hfz64_2
           try clear hfz64_3
           try clear hfz64_4
           try clear hfz8_0
           try clear hfz8_1
           try clear hfz8_2
           try clear hfz9_0
           try clear hfz9_1
           try clear hfz9_2
           try clear hx521_0
           try clear hx521_1
           try clear hx521_2
           try clear hx521_3
           try clear hx521_4
           try clear p2
           try clear p521
           try clear q521
           obtain ⟨kq, x63_15, rfl, HA, HJ15, BK518, BK522, HB⟩ := hcut
           cases kq with
           | zero => exact absurd HA.out (by simp [impl_PlanOk.j2])
           | succ kj15 =>
            have H := HA.out
            clear HA
            simp only [impl_PlanOk.j2] at H
            by_cases c66 : x63_15 = true
            ·subst c66
             have H1 : (some false) = some r := by rw [if_pos rfl] at H; exact H
             clear H
             have H := H1
             clear H1
             obtain rfl := Option.some.inj H
             go_wp2
             repeat (go_quiet (fail); try go_wp2)
             go_ret
             exact ⟨by first | rfl | (simp [errW_none, errW_some] <;> rfl) | (simp [*, errW_none, errW_some] <;> rfl), by repeat (first | (with_reducible first | exact HB.out | apply below_alloc | apply pw_below_drewN | apply below_drew1 | refine below_set ?_ GE518.out | refine below_set ?_ GE522.out) | exact HB.out)⟩
            ·replace c66 := Bool.eq_false_iff.mpr c66
             subst c66
             have H1 : (if x25_2 > 0 then (if 0 ≤ (wrap64 (x25_2 - 1)) then (if (wrap64 (x25_2 - 1)) < (l0_2.length : Int) then (impl_PlanOk.j3 kj15 x25_2 l0_2 (l0_2.length : Int) x25_2 (decide (((rd_T89 l0_2 (wrap64 (x25_2 - 1))).f2) > ((rd_T89 l0_2 x25_2).f2))) a0_0 a0_1 l0_2 ((rd_T89 l0_2 x25_2).f0) ((rd_T89 l0_2 x25_2).f1) ((rd_T89 l0_2 x25_2).f2) ((rd_T89 l0_2 x25_2).f3) ((rd_T89 l0_2 x25_2).f4)) else (none)) else (none)) else (impl_PlanOk.j3 kj15 x25_2 l0_2 (l0_2.length : Int) x25_2 false a0_0 a0_1 l0_2 ((rd_T89 l0_2 x25_2).f0) ((rd_T89 l0_2 x25_2).f1) ((rd_T89 l0_2 x25_2).f2) ((rd_T89 l0_2 x25_2).f3) ((rd_T89 l0_2 x25_2).f4))) = some r := by rw [if_neg (show ¬ (false = true) by decide)] at H; exact H
             clear H
             have H := H1
             clear H1
             have HC67 := Aside0.mk H
             clear H
             go_upto_region 8 with (fail)
             repeat (go_quiet (fail); go_upto_region 8 with (fail))
             go_cut [77] (fun v77 wc => ∃ (kq : Nat) (x77_66 : Bool), v77 = .bool x77_66 ∧ Aside0 (impl_PlanOk.j3 kq x25_2 l0_2 (l0_2.length : Int) x25_2 x77_66 a0_0 a0_1 l0_2 ((rd_T89 l0_2 x25_2).f0) ((rd_T89 l0_2 x25_2).f1) ((rd_T89 l0_2 x25_2).f2) ((rd_T89 l0_2 x25_2).f3) ((rd_T89 l0_2 x25_2).f4) = some r) ∧ Aside0 (kq ≤ kj15) ∧ Aside0 (wc.heap[gb518]? = some (.cells #[.int .i64 a0_0, .int .i64 a0_1, (.slice (some ad521) l0_2.length c0_2)] 54 (0, 0))) ∧ Aside0 (wc.heap[gb522]? = some (.cells #[.int .i64 ((rd_T89 l0_2 x25_2).f0), .int .i64 ((rd_T89 l0_2 x25_2).f1), .int .i64 ((rd_T89 l0_2 x25_2).f2), .int .i64 ((rd_T89 l0_2 x25_2).f3), .int .i64 ((rd_T89 l0_2 x25_2).f4)] 89 (0, 0))) ∧ Aside0 (Below w.heap.size w wc))
             case first =>
              have H := HC67.out
              clear HC67
              by_cases c68 : x25_2 > 0
              ·rw [if_pos c68] at H
               have c68b0 : decide (0 < x25_2) = true := decide_eq_true c68
               clear c68
               (first | rw [c68b0] | (simp only [i64_w, i32_w]; rw [c68b0]) | skip)
               obtain ⟨ji69, hji69⟩ : ∃ j_ : Int, (wrap64 (x25_2 - 1)) = j_ := ⟨_, rfl⟩
               replace H : (if 0 ≤ (ji69) then (if (ji69) < (l0_2.length : Int) then (impl_PlanOk.j3 kj15 x25_2 l0_2 (l0_2.length : Int) x25_2 (decide (((rd_T89 l0_2 (ji69)).f2) > ((rd_T89 l0_2 x25_2).f2))) a0_0 a0_1 l0_2 ((rd_T89 l0_2 x25_2).f0) ((rd_T89 l0_2 x25_2).f1) ((rd_T89 l0_2 x25_2).f2) ((rd_T89 l0_2 x25_2).f3) ((rd_T89 l0_2 x25_2).f4)) else (none)) else (none)) = some r := by first | (rw [hji69] at H; exact H) | (simp only [hji69] at H ⊢; exact H)
               have hji69w : (IntKind.i64.wrap (x25_2 - 1)) = ji69 := (i64_w _).trans hji69
               by_cases c70 : 0 ≤ (ji69)
               ·rw [if_pos c70] at H
                have c70b0 : decide (0 ≤ (ji69)) = true := decide_eq_true c70
                clear c70
                by_cases c71 : (ji69) < (l0_2.length : Int)
                ·rw [if_pos c71] at H
                 have c71b0 : decide ((ji69) < (l0_2.length : Int)) = true := decide_eq_true c71
                 clear c71
                 have H' := Aside0.mk H
                 clear H
                 have hnb72 := NB518_522.out
                 have hnc72 := NB522_518.out
                 have hcz73_0 : wc.cell? ⟨gb518, 0, none⟩ = some (.int .i64 a0_0) := (bC40 BK518.out 0).trans rfl
                 have hcz73_1 : wc.cell? ⟨gb518, 1, none⟩ = some (.int .i64 a0_1) := (bC40 BK518.out 1).trans rfl
                 have hcz73_2 : wc.cell? ⟨gb518, 2, none⟩ = some (.slice (some ad521) l0_2.length c0_2) := (bC40 BK518.out 2).trans rfl
                 have hfz73_0 := blk_frozen BK518.out 0
                 have hfz73_1 := blk_frozen BK518.out 1
                 have hfz73_2 := blk_frozen BK518.out 2
                 have p527 : 0 ≤ ((ji69) : Int) := of_decide_eq_true nx_
                 have q527 : (ji69) < (l0_2.length : Int) := of_decide_eq_true nx_
                 obtain ⟨ad527, e527, hx527_0, hx527_1, hx527_2, hx527_3, hx527_4⟩ := at_T89 HR0_2.out (ji69) p527 q527
                 obtain rfl : ad521 = ad527 := (by injection e527)
                 replace hx527_0 := (HB.out.cell (World.block_lt_of_cell? w _ hx527_0)).trans hx527_0
                 replace hx527_1 := (HB.out.cell (World.block_lt_of_cell? w _ hx527_1)).trans hx527_1
                 replace hx527_2 := (HB.out.cell (World.block_lt_of_cell? w _ hx527_2)).trans hx527_2
                 replace hx527_3 := (HB.out.cell (World.block_lt_of_cell? w _ hx527_3)).trans hx527_3
                 replace hx527_4 := (HB.out.cell (World.block_lt_of_cell? w _ hx527_4)).trans hx527_4
                 replace p527 := eq_true p527
                 replace q527 := eq_true q527
                 have hcz74_0 : wc.cell? ⟨gb522, 0, none⟩ = some (.int .i64 ((rd_T89 l0_2 x25_2).f0)) := (bC40 BK522.out 0).trans rfl
                 have hcz74_1 : wc.cell? ⟨gb522, 1, none⟩ = some (.int .i64 ((rd_T89 l0_2 x25_2).f1)) := (bC40 BK522.out 1).trans rfl
                 have hcz74_2 : wc.cell? ⟨gb522, 2, none⟩ = some (.int .i64 ((rd_T89 l0_2 x25_2).f2)) := (bC40 BK522.out 2).trans rfl
                 have hcz74_3 : wc.cell? ⟨gb522, 3, none⟩ = some (.int .i64 ((rd_T89 l0_2 x25_2).f3)) := (bC40 BK522.out 3).trans rfl
                 have hcz74_4 : wc.cell? ⟨gb522, 4, none⟩ = some (.int .i64 ((rd_T89 l0_2 x25_2).f4)) := (bC40 BK522.out 4).trans rfl
                 have hfz74_0 := blk_frozen BK522.out 0
                 have hfz74_1 := blk_frozen BK522.out 1
                 have hfz74_2 := blk_frozen BK522.out 2
                 have hfz74_3 := blk_frozen BK522.out 3
                 have hfz74_4 := blk_frozen BK522.out 4
                 go_wp2
                 repeat (go_quiet (fail); try go_wp2)
                 go_meet
                 case rel => exact ⟨_, (decide (((rd_T89 l0_2 (ji69)).f2) > ((rd_T89 l0_2 x25_2).f2))), (by first | rfl | (simp; done) | (simp only [← hji69] <;> (first | rfl | simp)) | (simp [*]; done) | (simp [*]; exact Option.some.inj (Eq.trans (Eq.symm (Aside0.out (by assumption))) (Aside0.out (by assumption))))), H', ⟨by have := HJ1.out; have := HK2.out; have := HJ15.out; first | omega | exact Nat.le_refl _⟩, ⟨by (with_reducible repeat (first | refine bN40 ?_ _ | refine bD40 ?_ | refine bA40 ?_ _)); exact BK518.out⟩, ⟨by (with_reducible repeat (first | refine bN40 ?_ _ | refine bD40 ?_ | refine bA40 ?_ _)); exact BK522.out⟩, ⟨by repeat (first | (with_reducible first | exact HB.out | apply below_alloc | apply pw_below_drewN | apply below_drew1 | refine below_set ?_ GE518.out | refine below_set ?_ GE522.out) | exact HB.out)⟩⟩
                ·rw [if_neg c71] at H
                 exact absurd H (by simp)
               ·rw [if_neg c70] at H
                exact absurd H (by simp)
              ·rw [if_neg c68] at H
               have c68b0 : decide (0 < x25_2) = false := decide_eq_false c68
               clear c68
               (first | rw [c68b0] | (simp only [i64_w, i32_w]; rw [c68b0]) | skip)
               have H' := Aside0.mk H
               clear H
               go_wp2
               repeat (go_quiet (fail); try go_wp2)
               go_meet
               case rel => exact ⟨_, (false), ns_, H', ⟨by have := HJ1.out; have := HK2.out; have := HJ15.out; first | omega | exact Nat.le_refl _⟩, ⟨by (with_reducible repeat (first | refine bN40 ?_ _ | refine bD40 ?_ | refine bA40 ?_ _)); exact BK518.out⟩, ⟨by (with_reducible repeat (first | refine bN40 ?_ _ | refine bD40 ?_ | refine bA40 ?_ _)); exact BK522.out⟩, ⟨by repeat (first | (with_reducible first | exact HB.out | apply below_alloc | apply pw_below_drewN | apply below_drew1 | refine below_set ?_ GE518.out | refine below_set ?_ GE522.out) | exact HB.out)⟩⟩
             case rest =>
              clear HC67
              try clear c1
              try clear c2
              try clear p2
              try clear c3
              try clear c4
              try clear c5
              try clear p5
              try clear q5
              try clear hx5
              try clear c6
              try clear p6
              try clear c7
              try clear c11
              try clear c13
              try clear c13b0
              try clear c14
              try clear c14b0
              try clear c15
              try clear c15b0
              try clear c18
              try clear c21
              try clear c23
              try clear c24
              try clear c24b0
              try clear c24b1
              try clear c25
              try clear c34
              try clear c36
              try clear c40
              try clear c46
              try clear p52
              try clear q52
              try clear hx52
              try clear c55
              try clear c62
              try clear p64
              try clear c66
              try clear c68
              try clear c68b0
              try clear c70
              try clear c70b0
              try clear c71
              try clear c71b0
              try clear c72
              try clear hcz10_0
              try clear hcz10_1
              try clear hcz10_2
              try clear hcz12_0
              try clear hcz12_1
              try clear hcz12_2
              try clear hcz19_0
              try clear hcz19_1
              try clear hcz19_2
              try clear hcz19_3
              try clear hcz19_4
              try clear hcz26_0
              try clear hcz26_1
              try clear hcz26_2
              try clear hcz27_0
              try clear hcz27_1
              try clear hcz27_2
              try clear hcz27_3
              try clear hcz27_4
              try clear hcz29_0
              try clear hcz29_1
              try clear hcz29_2
              try clear hcz30_0
              try clear hcz30_1
              try clear hcz30_2
              try clear hcz30_3
              try clear hcz30_4
              try clear hcz32_0
              try clear hcz32_1
              try clear hcz32_2
              try clear hcz32_3
              try clear hcz32_4
              try clear hcz37_0
              try clear hcz37_1
              try clear hcz37_2
              try clear hcz38_0
              try clear hcz38_1
              try clear hcz38_2
              try clear hcz38_3
              try clear hcz38_4
              try clear hcz40_0
              try clear hcz40_1
              try clear hcz40_2
              try clear hcz41_0
              try clear hcz41_1
              try clear hcz41_2
              try clear hcz41_3
              try clear hcz41_4
              try clear hcz43_0
              try clear hcz43_1
              try clear hcz43_2
              try clear hcz43_3
              try clear hcz43_4
              try clear hcz45_0
              try clear hcz45_1
              try clear hcz45_2
              try clear hcz45_3
              try clear hcz45_4
              try clear hcz47_0
              try clear hcz47_1
              try clear hcz47_2
              try clear hcz48_0
              try clear hcz48_1
              try clear hcz48_2
              try clear hcz48_3
              try clear hcz48_4
              try clear hcz50_0
              try clear hcz50_1
              try clear hcz50_2
              try clear hcz51_0
              try clear hcz51_1
              try clear hcz51_2
              try clear hcz51_3
              try clear hcz51_4
              try clear hcz53_0
              try clear hcz53_1
              try clear hcz53_2
              try clear hcz53_3
              try clear hcz53_4
              try clear hcz56_0
              try clear hcz56_1
              try clear hcz56_2
              try clear hcz57_0
              try clear hcz57_1
              try clear hcz57_2
              try clear hcz57_3
              try clear hcz57_4
              try clear hcz59_0
              try clear hcz59_1
              try clear hcz59_2
              try clear hcz60_0
              try clear hcz60_1
              try clear hcz60_2
              try clear hcz60_3
              try clear hcz60_4
              try clear hcz63_0
              try clear hcz63_1
              try clear hcz63_2
              try clear hcz64_0
              try clear hcz64_1
              try clear hcz64_2
              try clear hcz64_3
              try clear hcz64_4
              try clear hcz73_0
              try clear hcz73_1
              try clear hcz73_2
              try clear hcz74_0
              try clear hcz74_1
              try clear hcz74_2
              try clear hcz74_3
              try clear hcz74_4
              try clear hcz8_0
              try clear hcz8_1
              try clear hcz8_2
              try clear hcz9_0
              try clear hcz9_1
              try clear hcz9_2
              try clear hfz10_0
              try clear hfz10_1
              try clear hfz10_2
              try clear hfz12_0
              try clear hfz12_1
              try clear hfz12_2
              try clear hfz19_0
              try clear hfz19_1
              try clear hfz19_2
              try clear hfz19_3
              try clear hfz19_4
              try clear hfz26_0
              try clear hfz26_1
              try clear hfz26_2
              try clear hfz27_0
              try clear hfz27_1
              try clear hfz27_2
              try clear hfz27_3
              try clear hfz27_4
              try clear hfz29_0
              try clear hfz29_1
              try clear hfz29_2
              try clear hfz30_0
              try clear hfz30_1
              try clear hfz30_2
              try clear hfz30_3
              try clear hfz30_4
              try clear hfz32_0
              try clear hfz32_1
              try clear hfz32_2
              try clear hfz32_3
              try clear hfz32_4
              try clear hfz37_0
              try clear hfz37_1
              try clear hfz37_2
              try clear hfz38_0
              try clear hfz38_1
              try clear hfz38_2
              try clear hfz38_3
              try clear hfz38_4
              try clear hfz40_0
              try clear hfz40_1
              try clear hfz40_2
              try clear hfz41_0
              try clear hfz41_1
              try clear hfz41_2
              try clear hfz41_3
              try clear hfz41_4
              try clear hfz43_0
              try clear hfz43_1
              try clear hfz43_2
              try clear hfz43_3
              try clear hfz43_4
              try clear hfz45_0
              try clear hfz45_1
              try clear hfz45_2
              try clear hfz45_3
              try clear hfz45_4
              try clear hfz47_0
              try clear hfz47_1
              try clear hfz47_2
              try clear hfz48_0
              try clear hfz48_1
              try clear hfz48_2
              try clear hfz48_3
              try clear hfz48_4
              try clear hfz50_0
              try clear hfz50_1
              try clear hfz50_2
              try clear hfz51_0
              try clear hfz51_1
              try clear hfz51_2
              try clear hfz51_3
              try clear hfz51_4
              try clear hfz53_0
              try clear hfz53_1
              try clear hfz53_2
              try clear hfz53_3
              try clear hfz53_4
              try clear hfz56_0
              try clear hfz56_1
              try clear hfz56_2
              try clear hfz57_0
              try clear hfz57_1
              try clear hfz57_2
              try clear hfz57_3
              try clear hfz57_4
              try clear hfz59_0
              try clear hfz59_1
              try clear hfz59_2
              try clear hfz60_0
              try clear hfz60_1
              try clear hfz60_2
              try clear hfz60_3
              try clear hfz60_4
              try clear hfz63_0
              try clear hfz63_1
              try clear hfz63_2
              try clear hfz64_0
              try clear hfz64_1
              try clear hfz64_2
              try clear hfz64_3
              try clear hfz64_4
              try clear hfz73_0
              try clear hfz73_1
              try clear hfz73_2
              try clear hfz74_0
              try clear hfz74_1
              try clear hfz74_2
              try clear hfz74_3
              try clear hfz74_4
              try clear hfz8_0
              try clear hfz8_1
              try clear hfz8_2
              try clear hfz9_0
              try clear hfz9_1
              try clear hfz9_2
              try clear hx521_0
              try clear hx521_1
              try clear hx521_2
              try clear hx521_3
              try clear hx521_4
              try clear hx527_0
              try clear hx527_1
              try clear hx527_2
              try clear hx527_3
              try clear hx527_4
              try clear p2
              try clear p5
              try clear p52
              try clear p521
              try clear p527
              try clear q5
              try clear q52
              try clear q521
              try clear q527
              obtain ⟨kq, x77_66, rfl, HA, HJ66, BK518, BK522, HB⟩ := hcut
              cases kq with
              | zero => exact absurd HA.out (by simp [impl_PlanOk.j3])
              | succ kj66 =>
               have H := HA.out
               clear HA
               simp only [impl_PlanOk.j3] at H
               by_cases c75 : x77_66 = true
               ·subst c75
                have H1 : (some false) = some r := by rw [if_pos rfl] at H; exact H
                clear H
                have H := H1
                clear H1
                obtain rfl := Option.some.inj H
                go_wp2
                repeat (go_quiet (fail); try go_wp2)
                go_ret
                exact ⟨by first | rfl | (simp [errW_none, errW_some] <;> rfl) | (simp [*, errW_none, errW_some] <;> rfl), by repeat (first | (with_reducible first | exact HB.out | apply below_alloc | apply pw_below_drewN | apply below_drew1 | refine below_set ?_ GE518.out | refine below_set ?_ GE522.out) | exact HB.out)⟩
               ·replace c75 := Bool.eq_false_iff.mpr c75
                subst c75
                have H1 : ((impl_Plan_before.f kj66 a0_0 a0_1 l0_2 x25_2).bind fun t528 => (if t528 ≥ 0 then (if 0 ≤ t528 then (if t528 < (l0_2.length : Int) then (if ((rd_T89 l0_2 t528).f1) = ((rd_T89 l0_2 x25_2).f0) then (if ((rd_T89 l0_2 t528).f3) > ((rd_T89 l0_2 x25_2).f2) then (some false) else (impl_PlanOk.l0 kj66 l0_2 (l0_2.length : Int) (wrap64 (x25_2 + 1)) a0_0 a0_1 l0_2)) else (some false)) else (none)) else (none)) else (impl_PlanOk.l0 kj66 l0_2 (l0_2.length : Int) (wrap64 (x25_2 + 1)) a0_0 a0_1 l0_2))) = some r := by rw [if_neg (show ¬ (false = true) by decide)] at H; exact H
                clear H
                have H := H1
                clear H1
                replace H := Option.bind_eq_some_iff.mp H
                obtain ⟨t528, A760, H⟩ := H
                replace H : (if t528 ≥ 0 then (if 0 ≤ t528 then (if t528 < (l0_2.length : Int) then (if ((rd_T89 l0_2 t528).f1) = ((rd_T89 l0_2 x25_2).f0) then (if ((rd_T89 l0_2 t528).f3) > ((rd_T89 l0_2 x25_2).f2) then (some false) else (impl_PlanOk.l0 kj66 l0_2 (l0_2.length : Int) (wrap64 (x25_2 + 1)) a0_0 a0_1 l0_2)) else (some false)) else (none)) else (none)) else (impl_PlanOk.l0 kj66 l0_2 (l0_2.length : Int) (wrap64 (x25_2 + 1)) a0_0 a0_1 l0_2)) = some r := H
                have A76 := Aside0.mk A760
                clear A760
                by_cases c77 : t528 ≥ 0
                ·rw [if_pos c77] at H
                 have c77b0 : decide (0 ≤ t528) = true := decide_eq_true c77
                 clear c77
                 by_cases c78 : 0 ≤ t528
                 ·rw [if_pos c78] at H
                  have c78b0 : decide (0 ≤ t528) = true := decide_eq_true c78
                  clear c78
                  by_cases c79 : t528 < (l0_2.length : Int)
                  ·rw [if_pos c79] at H
                   have c79b0 : decide (t528 < (l0_2.length : Int)) = true := decide_eq_true c79
                   clear c79
                   by_cases c80 : ((rd_T89 l0_2 t528).f1) = ((rd_T89 l0_2 x25_2).f0)
                   ·rw [if_pos c80] at H
                    have c80b0 : (((rd_T89 l0_2 t528).f1) == ((rd_T89 l0_2 x25_2).f0)) = true := beq_iff_eq.mpr c80
                    have c80b1 : (((rd_T89 l0_2 t528).f1) != ((rd_T89 l0_2 x25_2).f0)) = false := bne_eq_false_iff_eq.mpr c80
                    clear c80
                    by_cases c81 : ((rd_T89 l0_2 t528).f3) > ((rd_T89 l0_2 x25_2).f2)
                    ·rw [if_pos c81] at H
                     have c81b0 : decide (((rd_T89 l0_2 x25_2).f2) < ((rd_T89 l0_2 t528).f3)) = true := decide_eq_true c81
                     clear c81
                     obtain rfl := Option.some.inj H
                     have hnb82 := NB518_522.out
                     have hnc82 := NB522_518.out
                     have hcz83_0 : wc.cell? ⟨gb518, 0, none⟩ = some (.int .i64 a0_0) := (bC40 BK518.out 0).trans rfl
                     have hcz83_1 : wc.cell? ⟨gb518, 1, none⟩ = some (.int .i64 a0_1) := (bC40 BK518.out 1).trans rfl
                     have hcz83_2 : wc.cell? ⟨gb518, 2, none⟩ = some (.slice (some ad521) l0_2.length c0_2) := (bC40 BK518.out 2).trans rfl
                     have hfz83_0 := blk_frozen BK518.out 0
                     have hfz83_1 := blk_frozen BK518.out 1
                     have hfz83_2 := blk_frozen BK518.out 2
                     go_wp2_with (first | (go_at_call 80; (with_reducible refine (impl_Plan_before.calls kj66 a0_0 a0_1 _ _ l0_2 x25_2 t528 _ ?side1 ?side2 A76.out).mono ?_); (case side1 => exact nc_ (Kd.C_below HR0_2.out HB.out)); (case side2 => exact HC0_2.out); rintro e w84 ⟨rfl, hb⟩; have n0_ := Aside0.mk (bB40 (g := gb518) (o := .cells #[.int .i64 a0_0, .int .i64 a0_1, .slice (some ad521) l0_2.length c0_2] 54 (0, 0)) (nb_ BK518.out) hb); have n1_ := Aside0.mk (bB40 (g := gb522) (o := .cells #[.int .i64 ((rd_T89 l0_2 x25_2).f0), .int .i64 ((rd_T89 l0_2 x25_2).f1), .int .i64 ((rd_T89 l0_2 x25_2).f2), .int .i64 ((rd_T89 l0_2 x25_2).f3), .int .i64 ((rd_T89 l0_2 x25_2).f4)] 89 (0, 0)) (nb_ BK522.out) hb); have n2_ := Aside0.mk (eS40 (ne_ HB.out) hb); clear BK518; clear BK522; clear HB; have BK518 := n0_; have BK522 := n1_; have HB := n2_; clear n0_ n1_ n2_; (try clear hb); (try clear hb2); (try clear hk); (try clear hi); have hcz85_0 : w84.cell? ⟨gb518, 0, none⟩ = some (.int .i64 a0_0) := (bC40 BK518.out 0).trans rfl; have hcz85_1 : w84.cell? ⟨gb518, 1, none⟩ = some (.int .i64 a0_1) := (bC40 BK518.out 1).trans rfl; have hcz85_2 : w84.cell? ⟨gb518, 2, none⟩ = some (.slice (some ad521) l0_2.length c0_2) := (bC40 BK518.out 2).trans rfl; have hfz85_0 := blk_frozen BK518.out 0; have hfz85_1 := blk_frozen BK518.out 1; have hfz85_2 := blk_frozen BK518.out 2; have p529 : 0 ≤ (t528 : Int) := of_decide_eq_true nx_; have q529 : t528 < (l0_2.length : Int) := of_decide_eq_true nx_; obtain ⟨ad529, e529, hx529_0, hx529_1, hx529_2, hx529_3, hx529_4⟩ := at_T89 HR0_2.out t528 p529 q529; obtain rfl : ad521 = ad529 := (by injection e529); replace hx529_0 := (HB.out.cell (World.block_lt_of_cell? w _ hx529_0)).trans hx529_0; replace hx529_1 := (HB.out.cell (World.block_lt_of_cell? w _ hx529_1)).trans hx529_1; replace hx529_2 := (HB.out.cell (World.block_lt_of_cell? w _ hx529_2)).trans hx529_2; replace hx529_3 := (HB.out.cell (World.block_lt_of_cell? w _ hx529_3)).trans hx529_3; replace hx529_4 := (HB.out.cell (World.block_lt_of_cell? w _ hx529_4)).trans hx529_4; replace p529 := eq_true p529; replace q529 := eq_true q529; have hcz86_0 : w84.cell? ⟨gb522, 0, none⟩ = some (.int .i64 ((rd_T89 l0_2 x25_2).f0)) := (bC40 BK522.out 0).trans rfl; have hcz86_1 : w84.cell? ⟨gb522, 1, none⟩ = some (.int .i64 ((rd_T89 l0_2 x25_2).f1)) := (bC40 BK522.out 1).trans rfl; have hcz86_2 : w84.cell? ⟨gb522, 2, none⟩ = some (.int .i64 ((rd_T89 l0_2 x25_2).f2)) := (bC40 BK522.out 2).trans rfl; have hcz86_3 : w84.cell? ⟨gb522, 3, none⟩ = some (.int .i64 ((rd_T89 l0_2 x25_2).f3)) := (bC40 BK522.out 3).trans rfl; have hcz86_4 : w84.cell? ⟨gb522, 4, none⟩ = some (.int .i64 ((rd_T89 l0_2 x25_2).f4)) := (bC40 BK522.out 4).trans rfl; have hfz86_0 := blk_frozen BK522.out 0; have hfz86_1 := blk_frozen BK522.out 1; have hfz86_2 := blk_frozen BK522.out 2; have hfz86_3 := blk_frozen BK522.out 3; have hfz86_4 := blk_frozen BK522.out 4; have p530 : 0 ≤ (t528 : Int) := of_decide_eq_true nx_; have q530 : t528 < (l0_2.length : Int) := of_decide_eq_true nx_; obtain ⟨ad530, e530, hx530_0, hx530_1, hx530_2, hx530_3, hx530_4⟩ := at_T89 HR0_2.out t528 p530 q530; obtain rfl : ad521 = ad530 := (by injection e530); replace hx530_0 := (HB.out.cell (World.block_lt_of_cell? w _ hx530_0)).trans hx530_0; replace hx530_1 := (HB.out.cell (World.block_lt_of_cell? w _ hx530_1)).trans hx530_1; replace hx530_2 := (HB.out.cell (World.block_lt_of_cell? w _ hx530_2)).trans hx530_2; replace hx530_3 := (HB.out.cell (World.block_lt_of_cell? w _ hx530_3)).trans hx530_3; replace hx530_4 := (HB.out.cell (World.block_lt_of_cell? w _ hx530_4)).trans hx530_4; replace p530 := eq_true p530; replace q530 := eq_true q530))
                     repeat (go_quiet (first | (go_at_call 80; (with_reducible refine (impl_Plan_before.calls kj66 a0_0 a0_1 _ _ l0_2 x25_2 t528 _ ?side1 ?side2 A76.out).mono ?_); (case side1 => exact nc_ (Kd.C_below HR0_2.out HB.out)); (case side2 => exact HC0_2.out); rintro e w84 ⟨rfl, hb⟩; have n0_ := Aside0.mk (bB40 (g := gb518) (o := .cells #[.int .i64 a0_0, .int .i64 a0_1, .slice (some ad521) l0_2.length c0_2] 54 (0, 0)) (nb_ BK518.out) hb); have n1_ := Aside0.mk (bB40 (g := gb522) (o := .cells #[.int .i64 ((rd_T89 l0_2 x25_2).f0), .int .i64 ((rd_T89 l0_2 x25_2).f1), .int .i64 ((rd_T89 l0_2 x25_2).f2), .int .i64 ((rd_T89 l0_2 x25_2).f3), .int .i64 ((rd_T89 l0_2 x25_2).f4)] 89 (0, 0)) (nb_ BK522.out) hb); have n2_ := Aside0.mk (eS40 (ne_ HB.out) hb); clear BK518; clear BK522; clear HB; have BK518 := n0_; have BK522 := n1_; have HB := n2_; clear n0_ n1_ n2_; (try clear hb); (try clear hb2); (try clear hk); (try clear hi); have hcz85_0 : w84.cell? ⟨gb518, 0, none⟩ = some (.int .i64 a0_0) := (bC40 BK518.out 0).trans rfl; have hcz85_1 : w84.cell? ⟨gb518, 1, none⟩ = some (.int .i64 a0_1) := (bC40 BK518.out 1).trans rfl; have hcz85_2 : w84.cell? ⟨gb518, 2, none⟩ = some (.slice (some ad521) l0_2.length c0_2) := (bC40 BK518.out 2).trans rfl; have hfz85_0 := blk_frozen BK518.out 0; have hfz85_1 := blk_frozen BK518.out 1; have hfz85_2 := blk_frozen BK518.out 2; have p529 : 0 ≤ (t528 : Int) := of_decide_eq_true nx_; have q529 : t528 < (l0_2.length : Int) := of_decide_eq_true nx_; obtain ⟨ad529, e529, hx529_0, hx529_1, hx529_2, hx529_3, hx529_4⟩ := at_T89 HR0_2.out t528 p529 q529; obtain rfl : ad521 = ad529 := (by injection e529); replace hx529_0 := (HB.out.cell (World.block_lt_of_cell? w _ hx529_0)).trans hx529_0; replace hx529_1 := (HB.out.cell (World.block_lt_of_cell? w _ hx529_1)).trans hx529_1; replace hx529_2 := (HB.out.cell (World.block_lt_of_cell? w _ hx529_2)).trans hx529_2; replace hx529_3 := (HB.out.cell (World.block_lt_of_cell? w _ hx529_3)).trans hx529_3; replace hx529_4 := (HB.out.cell (World.block_lt_of_cell? w _ hx529_4)).trans hx529_4; replace p529 := eq_true p529; replace q529 := eq_true q529; have hcz86_0 : w84.cell? ⟨gb522, 0, none⟩ = some (.int .i64 ((rd_T89 l0_2 x25_2).f0)) := (bC40 BK522.out 0).trans rfl; have hcz86_1 : w84.cell? ⟨gb522, 1, none⟩ = some (.int .i64 ((rd_T89 l0_2 x25_2).f1)) := (bC40 BK522.out 1).trans rfl; have hcz86_2 : w84.cell? ⟨gb522, 2, none⟩ = some (.int .i64 ((rd_T89 l0_2 x25_2).f2)) := (bC40 BK522.out 2).trans rfl; have hcz86_3 : w84.cell? ⟨gb522, 3, none⟩ = some (.int .i64 ((rd_T89 l0_2 x25_2).f3)) := (bC40 BK522.out 3).trans rfl; have hcz86_4 : w84.cell? ⟨gb522, 4, none⟩ = some (.int .i64 ((rd_T89 l0_2 x25_2).f4)) := (bC40 BK522.out 4).trans rfl; have hfz86_0 := blk_frozen BK522.out 0; have hfz86_1 := blk_frozen BK522.out 1; have hfz86_2 := blk_frozen BK522.out 2; have hfz86_3 := blk_frozen BK522.out 3; have hfz86_4 := blk_frozen BK522.out 4; have p530 : 0 ≤ (t528 : Int) := of_decide_eq_true nx_; have q530 : t528 < (l0_2.length : Int) := of_decide_eq_true nx_; obtain ⟨ad530, e530, hx530_0, hx530_1, hx530_2, hx530_3, hx530_4⟩ := at_T89 HR0_2.out t528 p530 q530; obtain rfl : ad521 = ad530 := (by injection e530); replace hx530_0 := (HB.out.cell (World.block_lt_of_cell? w _ hx530_0)).trans hx530_0; replace hx530_1 := (HB.out.cell (World.block_lt_of_cell? w _ hx530_1)).trans hx530_1; replace hx530_2 := (HB.out.cell (World.block_lt_of_cell? w _ hx530_2)).trans hx530_2; replace hx530_3 := (HB.out.cell (World.block_lt_of_cell? w _ hx530_3)).trans hx530_3; replace hx530_4 := (HB.out.cell (World.block_lt_of_cell? w _ hx530_4)).trans hx530_4; replace p530 := eq_true p530; replace q530 := eq_true q530)); try go_wp2_with (first | (go_at_call 80; (with_reducible refine (impl_Plan_before.calls kj66 a0_0 a0_1 _ _ l0_2 x25_2 t528 _ ?side1 ?side2 A76.out).mono ?_); (case side1 => exact nc_ (Kd.C_below HR0_2.out HB.out)); (case side2 => exact HC0_2.out); rintro e w84 ⟨rfl, hb⟩; have n0_ := Aside0.mk (bB40 (g := gb518) (o := .cells #[.int .i64 a0_0, .int .i64 a0_1, .slice (some ad521) l0_2.length c0_2] 54 (0, 0)) (nb_ BK518.out) hb); have n1_ := Aside0.mk (bB40 (g := gb522) (o := .cells #[.int .i64 ((rd_T89 l0_2 x25_2).f0), .int .i64 ((rd_T89 l0_2 x25_2).f1), .int .i64 ((rd_T89 l0_2 x25_2).f2), .int .i64 ((rd_T89 l0_2 x25_2).f3), .int .i64 ((rd_T89 l0_2 x25_2).f4)] 89 (0, 0)) (nb_ BK522.out) hb); have n2_ := Aside0.mk (eS40 (ne_ HB.out) hb); clear BK518; clear BK522; clear HB; have BK518 := n0_; have BK522 := n1_; have HB := n2_; clear n0_ n1_ n2_; (try clear hb); (try clear hb2); (try clear hk); (try clear hi); have hcz85_0 : w84.cell? ⟨gb518, 0, none⟩ = some (.int .i64 a0_0) := (bC40 BK518.out 0).trans rfl; have hcz85_1 : w84.cell? ⟨gb518, 1, none⟩ = some (.int .i64 a0_1) := (bC40 BK518.out 1).trans rfl; have hcz85_2 : w84.cell? ⟨gb518, 2, none⟩ = some (.slice (some ad521) l0_2.length c0_2) := (bC40 BK518.out 2).trans rfl; have hfz85_0 := blk_frozen BK518.out 0; have hfz85_1 := blk_frozen BK518.out 1; have hfz85_2 := blk_frozen BK518.out 2; have p529 : 0 ≤ (t528 : Int) := of_decide_eq_true nx_; have q529 : t528 < (l0_2.length : Int) := of_decide_eq_true nx_; obtain ⟨ad529, e529, hx529_0, hx529_1, hx529_2, hx529_3, hx529_4⟩ := at_T89 HR0_2.out t528 p529 q529; obtain rfl : ad521 = ad529 := (by injection e529); replace hx529_0 := (HB.out.cell (World.block_lt_of_cell? w _ hx529_0)).trans hx529_0; replace hx529_1 := (HB.out.cell (World.block_lt_of_cell? w _ hx529_1)).trans hx529_1; replace hx529_2 := (HB.out.cell (World.block_lt_of_cell? w _ hx529_2)).trans hx529_2; replace hx529_3 := (HB.out.cell (World.block_lt_of_cell? w _ hx529_3)).trans hx529_3; replace hx529_4 := (HB.out.cell (World.block_lt_of_cell? w _ hx529_4)).trans hx529_4; replace p529 := eq_true p529; replace q529 := eq_true q529; have hcz86_0 : w84.cell? ⟨gb522, 0, none⟩ = some (.int .i64 ((rd_T89 l0_2 x25_2).f0)) := (bC40 BK522.out 0).trans rfl; have hcz86_1 : w84.cell? ⟨gb522, 1, none⟩ = some (.int .i64 ((rd_T89 l0_2 x25_2).f1)) := (bC40 BK522.out 1).trans rfl; have hcz86_2 : w84.cell? ⟨gb522, 2, none⟩ = some (.int .i64 ((rd_T89 l0_2 x25_2).f2)) := (bC40 BK522.out 2).trans rfl; have hcz86_3 : w84.cell? ⟨gb522, 3, none⟩ = some (.int .i64 ((rd_T89 l0_2 x25_2).f3)) := (bC40 BK522.out 3).trans rfl; have hcz86_4 : w84.cell? ⟨gb522, 4, none⟩ = some (.int .i64 ((rd_T89 l0_2 x25_2).f4)) := (bC40 BK522.out 4).trans rfl; have hfz86_0 := blk_frozen BK522.out 0; have hfz86_1 := blk_frozen BK522.out 1; have hfz86_2 := blk_frozen BK522.out 2; have hfz86_3 := blk_frozen BK522.out 3; have hfz86_4 := blk_frozen BK522.out 4; have p530 : 0 ≤ (t528 : Int) := of_decide_eq_true nx_; have q530 : t528 < (l0_2.length : Int) := of_decide_eq_true nx_; obtain ⟨ad530, e530, hx530_0, hx530_1, hx530_2, hx530_3, hx530_4⟩ := at_T89 HR0_2.out t528 p530 q530; obtain rfl : ad521 = ad530 := (by injection e530); replace hx530_0 := (HB.out.cell (World.block_lt_of_cell? w _ hx530_0)).trans hx530_0; replace hx530_1 := (HB.out.cell (World.block_lt_of_cell? w _ hx530_1)).trans hx530_1; replace hx530_2 := (HB.out.cell (World.block_lt_of_cell? w _ hx530_2)).trans hx530_2; replace hx530_3 := (HB.out.cell (World.block_lt_of_cell? w _ hx530_3)).trans hx530_3; replace hx530_4 := (HB.out.cell (World.block_lt_of_cell? w _ hx530_4)).trans hx530_4; replace p530 := eq_true p530; replace q530 := eq_true q530)))
                     go_ret
                     exact ⟨by first | rfl | (simp [errW_none, errW_some] <;> rfl) | (simp [*, errW_none, errW_some] <;> rfl), by repeat (first | (with_reducible first | exact HB.out | apply below_alloc | apply pw_below_drewN | apply below_drew1 | refine below_set ?_ GE518.out | refine below_set ?_ GE522.out) | exact HB.out)⟩
                    ·rw [if_neg c81] at H
                     have c81b0 : decide (((rd_T89 l0_2 x25_2).f2) < ((rd_T89 l0_2 t528).f3)) = false := decide_eq_false c81
                     clear c81
                     have H' := Aside0.mk H
                     clear H
                     have hnb87 := NB518_522.out
                     have hnc87 := NB522_518.out
                     have hcz88_0 : wc.cell? ⟨gb518, 0, none⟩ = some (.int .i64 a0_0) := (bC40 BK518.out 0).trans rfl
                     have hcz88_1 : wc.cell? ⟨gb518, 1, none⟩ = some (.int .i64 a0_1) := (bC40 BK518.out 1).trans rfl
                     have hcz88_2 : wc.cell? ⟨gb518, 2, none⟩ = some (.slice (some ad521) l0_2.length c0_2) := (bC40 BK518.out 2).trans rfl
                     have hfz88_0 := blk_frozen BK518.out 0
                     have hfz88_1 := blk_frozen BK518.out 1
                     have hfz88_2 := blk_frozen BK518.out 2
                     go_wp2_with (first | (go_at_call 80; (with_reducible refine (impl_Plan_before.calls kj66 a0_0 a0_1 _ _ l0_2 x25_2 t528 _ ?side1 ?side2 A76.out).mono ?_); (case side1 => exact nc_ (Kd.C_below HR0_2.out HB.out)); (case side2 => exact HC0_2.out); rintro e w89 ⟨rfl, hb⟩; have n0_ := Aside0.mk (bB40 (g := gb518) (o := .cells #[.int .i64 a0_0, .int .i64 a0_1, .slice (some ad521) l0_2.length c0_2] 54 (0, 0)) (nb_ BK518.out) hb); have n1_ := Aside0.mk (bB40 (g := gb522) (o := .cells #[.int .i64 ((rd_T89 l0_2 x25_2).f0), .int .i64 ((rd_T89 l0_2 x25_2).f1), .int .i64 ((rd_T89 l0_2 x25_2).f2), .int .i64 ((rd_T89 l0_2 x25_2).f3), .int .i64 ((rd_T89 l0_2 x25_2).f4)] 89 (0, 0)) (nb_ BK522.out) hb); have n2_ := Aside0.mk (eS40 (ne_ HB.out) hb); clear BK518; clear BK522; clear HB; have BK518 := n0_; have BK522 := n1_; have HB := n2_; clear n0_ n1_ n2_; (try clear hb); (try clear hb2); (try clear hk); (try clear hi); have hcz90_0 : w89.cell? ⟨gb518, 0, none⟩ = some (.int .i64 a0_0) := (bC40 BK518.out 0).trans rfl; have hcz90_1 : w89.cell? ⟨gb518, 1, none⟩ = some (.int .i64 a0_1) := (bC40 BK518.out 1).trans rfl; have hcz90_2 : w89.cell? ⟨gb518, 2, none⟩ = some (.slice (some ad521) l0_2.length c0_2) := (bC40 BK518.out 2).trans rfl; have hfz90_0 := blk_frozen BK518.out 0; have hfz90_1 := blk_frozen BK518.out 1; have hfz90_2 := blk_frozen BK518.out 2; have p529 : 0 ≤ (t528 : Int) := of_decide_eq_true nx_; have q529 : t528 < (l0_2.length : Int) := of_decide_eq_true nx_; obtain ⟨ad529, e529, hx529_0, hx529_1, hx529_2, hx529_3, hx529_4⟩ := at_T89 HR0_2.out t528 p529 q529; obtain rfl : ad521 = ad529 := (by injection e529); replace hx529_0 := (HB.out.cell (World.block_lt_of_cell? w _ hx529_0)).trans hx529_0; replace hx529_1 := (HB.out.cell (World.block_lt_of_cell? w _ hx529_1)).trans hx529_1; replace hx529_2 := (HB.out.cell (World.block_lt_of_cell? w _ hx529_2)).trans hx529_2; replace hx529_3 := (HB.out.cell (World.block_lt_of_cell? w _ hx529_3)).trans hx529_3; replace hx529_4 := (HB.out.cell (World.block_lt_of_cell? w _ hx529_4)).trans hx529_4; replace p529 := eq_true p529; replace q529 := eq_true q529; have hcz91_0 : w89.cell? ⟨gb522, 0, none⟩ = some (.int .i64 ((rd_T89 l0_2 x25_2).f0)) := (bC40 BK522.out 0).trans rfl; have hcz91_1 : w89.cell? ⟨gb522, 1, none⟩ = some (.int .i64 ((rd_T89 l0_2 x25_2).f1)) := (bC40 BK522.out 1).trans rfl; have hcz91_2 : w89.cell? ⟨gb522, 2, none⟩ = some (.int .i64 ((rd_T89 l0_2 x25_2).f2)) := (bC40 BK522.out 2).trans rfl; have hcz91_3 : w89.cell? ⟨gb522, 3, none⟩ = some (.int .i64 ((rd_T89 l0_2 x25_2).f3)) := (bC40 BK522.out 3).trans rfl; have hcz91_4 : w89.cell? ⟨gb522, 4, none⟩ = some (.int .i64 ((rd_T89 l0_2 x25_2).f4)) := (bC40 BK522.out 4).trans rfl; have hfz91_0 := blk_frozen BK522.out 0; have hfz91_1 := blk_frozen BK522.out 1; have hfz91_2 := blk_frozen BK522.out 2; have hfz91_3 := blk_frozen BK522.out 3; have hfz91_4 := blk_frozen BK522.out 4; have p530 : 0 ≤ (t528 : Int) := of_decide_eq_true nx_; have q530 : t528 < (l0_2.length : Int) := of_decide_eq_true nx_; obtain ⟨ad530, e530, hx530_0, hx530_1, hx530_2, hx530_3, hx530_4⟩ := at_T89 HR0_2.out t528 p530 q530; obtain rfl : ad521 = ad530 := (by injection e530); replace hx530_0 := (HB.out.cell (World.block_lt_of_cell? w _ hx530_0)).trans hx530_0; replace hx530_1 := (HB.out.cell (World.block_lt_of_cell? w _ hx530_1)).trans hx530_1; replace hx530_2 := (HB.out.cell (World.block_lt_of_cell? w _ hx530_2)).trans hx530_2; replace hx530_3 := (HB.out.cell (World.block_lt_of_cell? w _ hx530_3)).trans hx530_3; replace hx530_4 := (HB.out.cell (World.block_lt_of_cell? w _ hx530_4)).trans hx530_4; replace p530 := eq_true p530; replace q530 := eq_true q530))
                     repeat (go_quiet (first | (go_at_call 80; (with_reducible refine (impl_Plan_before.calls kj66 a0_0 a0_1 _ _ l0_2 x25_2 t528 _ ?side1 ?side2 A76.out).mono ?_); (case side1 => exact nc_ (Kd.C_below HR0_2.out HB.out)); (case side2 => exact HC0_2.out); rintro e w89 ⟨rfl, hb⟩; have n0_ := Aside0.mk (bB40 (g := gb518) (o := .cells #[.int .i64 a0_0, .int .i64 a0_1, .slice (some ad521) l0_2.length c0_2] 54 (0, 0)) (nb_ BK518.out) hb); have n1_ := Aside0.mk (bB40 (g := gb522) (o := .cells #[.int .i64 ((rd_T89 l0_2 x25_2).f0), .int .i64 ((rd_T89 l0_2 x25_2).f1), .int .i64 ((rd_T89 l0_2 x25_2).f2), .int .i64 ((rd_T89 l0_2 x25_2).f3), .int .i64 ((rd_T89 l0_2 x25_2).f4)] 89 (0, 0)) (nb_ BK522.out) hb); have n2_ := Aside0.mk (eS40 (ne_ HB.out) hb); clear BK518; clear BK522; clear HB; have BK518 := n0_; have BK522 := n1_; have HB := n2_; clear n0_ n1_ n2_; (try clear hb); (try clear hb2); (try clear hk); (try clear hi); have hcz90_0 : w89.cell? ⟨gb518, 0, none⟩ = some (.int .i64 a0_0) := (bC40 BK518.out 0).trans rfl; have hcz90_1 : w89.cell? ⟨gb518, 1, none⟩ = some (.int .i64 a0_1) := (bC40 BK518.out 1).trans rfl; have hcz90_2 : w89.cell? ⟨gb518, 2, none⟩ = some (.slice (some ad521) l0_2.length c0_2) := (bC40 BK518.out 2).trans rfl; have hfz90_0 := blk_frozen BK518.out 0; have hfz90_1 := blk_frozen BK518.out 1; have hfz90_2 := blk_frozen BK518.out 2; have p529 : 0 ≤ (t528 : Int) := of_decide_eq_true nx_; have q529 : t528 < (l0_2.length : Int) := of_decide_eq_true nx_; obtain ⟨ad529, e529, hx529_0, hx529_1, hx529_2, hx529_3, hx529_4⟩ := at_T89 HR0_2.out t528 p529 q529; obtain rfl : ad521 = ad529 := (by injection e529); replace hx529_0 := (HB.out.cell (World.block_lt_of_cell? w _ hx529_0)).trans hx529_0; replace hx529_1 := (HB.out.cell (World.block_lt_of_cell? w _ hx529_1)).trans hx529_1; replace hx529_2 := (HB.out.cell (World.block_lt_of_cell? w _ hx529_2)).trans hx529_2; replace hx529_3 := (HB.out.cell (World.block_lt_of_cell? w _ hx529_3)).trans hx529_3; replace hx529_4 := (HB.out.cell (World.block_lt_of_cell? w _ hx529_4)).trans hx529_4; replace p529 := eq_true p529; replace q529 := eq_true q529; have hcz91_0 : w89.cell? ⟨gb522, 0, none⟩ = some (.int .i64 ((rd_T89 l0_2 x25_2).f0)) := (bC40 BK522.out 0).trans rfl; have hcz91_1 : w89.cell? ⟨gb522, 1, none⟩ = some (.int .i64 ((rd_T89 l0_2 x25_2).f1)) := (bC40 BK522.out 1).trans rfl; have hcz91_2 : w89.cell? ⟨gb522, 2, none⟩ = some (.int .i64 ((rd_T89 l0_2 x25_2).f2)) := (bC40 BK522.out 2).trans rfl; have hcz91_3 : w89.cell? ⟨gb522, 3, none⟩ = some (.int .i64 ((rd_T89 l0_2 x25_2).f3)) := (bC40 BK522.out 3).trans rfl; have hcz91_4 : w89.cell? ⟨gb522, 4, none⟩ = some (.int .i64 ((rd_T89 l0_2 x25_2).f4)) := (bC40 BK522.out 4).trans rfl; have hfz91_0 := blk_frozen BK522.out 0; have hfz91_1 := blk_frozen BK522.out 1; have hfz91_2 := blk_frozen BK522.out 2; have hfz91_3 := blk_frozen BK522.out 3; have hfz91_4 := blk_frozen BK522.out 4; have p530 : 0 ≤ (t528 : Int) := of_decide_eq_true nx_; have q530 : t528 < (l0_2.length : Int) := of_decide_eq_true nx_; obtain ⟨ad530, e530, hx530_0, hx530_1, hx530_2, hx530_3, hx530_4⟩ := at_T89 HR0_2.out t528 p530 q530; obtain rfl : ad521 = ad530 := (by injection e530); replace hx530_0 := (HB.out.cell (World.block_lt_of_cell? w _ hx530_0)).trans hx530_0; replace hx530_1 := (HB.out.cell (World.block_lt_of_cell? w _ hx530_1)).trans hx530_1; replace hx530_2 := (HB.out.cell (World.block_lt_of_cell? w _ hx530_2)).trans hx530_2; replace hx530_3 := (HB.out.cell (World.block_lt_of_cell? w _ hx530_3)).trans hx530_3; replace hx530_4 := (HB.out.cell (World.block_lt_of_cell? w _ hx530_4)).trans hx530_4; replace p530 := eq_true p530; replace q530 := eq_true q530)); try go_wp2_with (first | (go_at_call 80; (with_reducible refine (impl_Plan_before.calls kj66 a0_0 a0_1 _ _ l0_2 x25_2 t528 _ ?side1 ?side2 A76.out).mono ?_); (case side1 => exact nc_ (Kd.C_below HR0_2.out HB.out)); (case side2 => exact HC0_2.out); rintro e w89 ⟨rfl, hb⟩; have n0_ := Aside0.mk (bB40 (g := gb518) (o := .cells #[.int .i64 a0_0, .int .i64 a0_1, .slice (some ad521) l0_2.length c0_2] 54 (0, 0)) (nb_ BK518.out) hb); have n1_ := Aside0.mk (bB40 (g := gb522) (o := .cells #[.int .i64 ((rd_T89 l0_2 x25_2).f0), .int .i64 ((rd_T89 l0_2 x25_2).f1), .int .i64 ((rd_T89 l0_2 x25_2).f2), .int .i64 ((rd_T89 l0_2 x25_2).f3), .int .i64 ((rd_T89 l0_2 x25_2).f4)] 89 (0, 0)) (nb_ BK522.out) hb); have n2_ := Aside0.mk (eS40 (ne_ HB.out) hb); clear BK518; clear BK522; clear HB; have BK518 := n0_; have BK522 := n1_; have HB := n2_; clear n0_ n1_ n2_; (try clear hb); (try clear hb2); (try clear hk); (try clear hi); have hcz90_0 : w89.cell? ⟨gb518, 0, none⟩ = some (.int .i64 a0_0) := (bC40 BK518.out 0).trans rfl; have hcz90_1 : w89.cell? ⟨gb518, 1, none⟩ = some (.int .i64 a0_1) := (bC40 BK518.out 1).trans rfl; have hcz90_2 : w89.cell? ⟨gb518, 2, none⟩ = some (.slice (some ad521) l0_2.length c0_2) := (bC40 BK518.out 2).trans rfl; have hfz90_0 := blk_frozen BK518.out 0; have hfz90_1 := blk_frozen BK518.out 1; have hfz90_2 := blk_frozen BK518.out 2; have p529 : 0 ≤ (t528 : Int) := of_decide_eq_true nx_; have q529 : t528 < (l0_2.length : Int) := of_decide_eq_true nx_; obtain ⟨ad529, e529, hx529_0, hx529_1, hx529_2, hx529_3, hx529_4⟩ := at_T89 HR0_2.out t528 p529 q529; obtain rfl : ad521 = ad529 := (by injection e529); replace hx529_0 := (HB.out.cell (World.block_lt_of_cell? w _ hx529_0)).trans hx529_0; replace hx529_1 := (HB.out.cell (World.block_lt_of_cell? w _ hx529_1)).trans hx529_1; replace hx529_2 := (HB.out.cell (World.block_lt_of_cell? w _ hx529_2)).trans hx529_2; replace hx529_3 := (HB.out.cell (World.block_lt_of_cell? w _ hx529_3)).trans hx529_3; replace hx529_4 := (HB.out.cell (World.block_lt_of_cell? w _ hx529_4)).trans hx529_4; replace p529 := eq_true p529; replace q529 := eq_true q529; have hcz91_0 : w89.cell? ⟨gb522, 0, none⟩ = some (.int .i64 ((rd_T89 l0_2 x25_2).f0)) := (bC40 BK522.out 0).trans rfl; have hcz91_1 : w89.cell? ⟨gb522, 1, none⟩ = some (.int .i64 ((rd_T89 l0_2 x25_2).f1)) := (bC40 BK522.out 1).trans rfl; have hcz91_2 : w89.cell? ⟨gb522, 2, none⟩ = some (.int .i64 ((rd_T89 l0_2 x25_2).f2)) := (bC40 BK522.out 2).trans rfl; have hcz91_3 : w89.cell? ⟨gb522, 3, none⟩ = some (.int .i64 ((rd_T89 l0_2 x25_2).f3)) := (bC40 BK522.out 3).trans rfl; have hcz91_4 : w89.cell? ⟨gb522, 4, none⟩ = some (.int .i64 ((rd_T89 l0_2 x25_2).f4)) := (bC40 BK522.out 4).trans rfl; have hfz91_0 := blk_frozen BK522.out 0; have hfz91_1 := blk_frozen BK522.out 1; have hfz91_2 := blk_frozen BK522.out 2; have hfz91_3 := blk_frozen BK522.out 3; have hfz91_4 := blk_frozen BK522.out 4; have p530 : 0 ≤ (t528 : Int) := of_decide_eq_true nx_; have q530 : t528 < (l0_2.length : Int) := of_decide_eq_true nx_; obtain ⟨ad530, e530, hx530_0, hx530_1, hx530_2, hx530_3, hx530_4⟩ := at_T89 HR0_2.out t528 p530 q530; obtain rfl : ad521 = ad530 := (by injection e530); replace hx530_0 := (HB.out.cell (World.block_lt_of_cell? w _ hx530_0)).trans hx530_0; replace hx530_1 := (HB.out.cell (World.block_lt_of_cell? w _ hx530_1)).trans hx530_1; replace hx530_2 := (HB.out.cell (World.block_lt_of_cell? w _ hx530_2)).trans hx530_2; replace hx530_3 := (HB.out.cell (World.block_lt_of_cell? w _ hx530_3)).trans hx530_3; replace hx530_4 := (HB.out.cell (World.block_lt_of_cell? w _ hx530_4)).trans hx530_4; replace p530 := eq_true p530; replace q530 := eq_true q530)))
                     go_roundg kj66
                     case measure => have := HJ1.out; have := HK2.out; have := HJ15.out; have := HJ66.out; omega
                     case rel => exact ⟨(wrap64 (x25_2 + 1)), ns_, H', ⟨by have := HJ1.out; have := HK2.out; have := HJ15.out; have := HJ66.out; omega⟩, ⟨by (with_reducible repeat (first | refine bN40 ?_ _ | refine bD40 ?_ | refine bA40 ?_ _)); exact BK518.out⟩, ⟨by repeat (first | (with_reducible first | exact HB.out | apply below_alloc | apply pw_below_drewN | apply below_drew1 | refine below_set ?_ GE518.out | refine below_set ?_ GE522.out) | exact HB.out)⟩⟩
                   ·rw [if_neg c80] at H
                    have c80b0 : (((rd_T89 l0_2 t528).f1) == ((rd_T89 l0_2 x25_2).f0)) = false := beq_eq_false_iff_ne.mpr c80
                    have c80b1 : (((rd_T89 l0_2 t528).f1) != ((rd_T89 l0_2 x25_2).f0)) = true := bne_iff_ne.mpr c80
                    obtain rfl := Option.some.inj H
                    have hnb92 := NB518_522.out
                    have hnc92 := NB522_518.out
                    have hcz93_0 : wc.cell? ⟨gb518, 0, none⟩ = some (.int .i64 a0_0) := (bC40 BK518.out 0).trans rfl
                    have hcz93_1 : wc.cell? ⟨gb518, 1, none⟩ = some (.int .i64 a0_1) := (bC40 BK518.out 1).trans rfl
                    have hcz93_2 : wc.cell? ⟨gb518, 2, none⟩ = some (.slice (some ad521) l0_2.length c0_2) := (bC40 BK518.out 2).trans rfl
                    have hfz93_0 := blk_frozen BK518.out 0
                    have hfz93_1 := blk_frozen BK518.out 1
                    have hfz93_2 := blk_frozen BK518.out 2
                    go_wp2_with (first | (go_at_call 80; (with_reducible refine (impl_Plan_before.calls kj66 a0_0 a0_1 _ _ l0_2 x25_2 t528 _ ?side1 ?side2 A76.out).mono ?_); (case side1 => exact nc_ (Kd.C_below HR0_2.out HB.out)); (case side2 => exact HC0_2.out); rintro e w94 ⟨rfl, hb⟩; have n0_ := Aside0.mk (bB40 (g := gb518) (o := .cells #[.int .i64 a0_0, .int .i64 a0_1, .slice (some ad521) l0_2.length c0_2] 54 (0, 0)) (nb_ BK518.out) hb); have n1_ := Aside0.mk (bB40 (g := gb522) (o := .cells #[.int .i64 ((rd_T89 l0_2 x25_2).f0), .int .i64 ((rd_T89 l0_2 x25_2).f1), .int .i64 ((rd_T89 l0_2 x25_2).f2), .int .i64 ((rd_T89 l0_2 x25_2).f3), .int .i64 ((rd_T89 l0_2 x25_2).f4)] 89 (0, 0)) (nb_ BK522.out) hb); have n2_ := Aside0.mk (eS40 (ne_ HB.out) hb); clear BK518; clear BK522; clear HB; have BK518 := n0_; have BK522 := n1_; have HB := n2_; clear n0_ n1_ n2_; (try clear hb); (try clear hb2); (try clear hk); (try clear hi); have hcz95_0 : w94.cell? ⟨gb518, 0, none⟩ = some (.int .i64 a0_0) := (bC40 BK518.out 0).trans rfl; have hcz95_1 : w94.cell? ⟨gb518, 1, none⟩ = some (.int .i64 a0_1) := (bC40 BK518.out 1).trans rfl; have hcz95_2 : w94.cell? ⟨gb518, 2, none⟩ = some (.slice (some ad521) l0_2.length c0_2) := (bC40 BK518.out 2).trans rfl; have hfz95_0 := blk_frozen BK518.out 0; have hfz95_1 := blk_frozen BK518.out 1; have hfz95_2 := blk_frozen BK518.out 2; have p529 : 0 ≤ (t528 : Int) := of_decide_eq_true nx_; have q529 : t528 < (l0_2.length : Int) := of_decide_eq_true nx_; obtain ⟨ad529, e529, hx529_0, hx529_1, hx529_2, hx529_3, hx529_4⟩ := at_T89 HR0_2.out t528 p529 q529; obtain rfl : ad521 = ad529 := (by injection e529); replace hx529_0 := (HB.out.cell (World.block_lt_of_cell? w _ hx529_0)).trans hx529_0; replace hx529_1 := (HB.out.cell (World.block_lt_of_cell? w _ hx529_1)).trans hx529_1; replace hx529_2 := (HB.out.cell (World.block_lt_of_cell? w _ hx529_2)).trans hx529_2; replace hx529_3 := (HB.out.cell (World.block_lt_of_cell? w _ hx529_3)).trans hx529_3; replace hx529_4 := (HB.out.cell (World.block_lt_of_cell? w _ hx529_4)).trans hx529_4; replace p529 := eq_true p529; replace q529 := eq_true q529; have hcz96_0 : w94.cell? ⟨gb522, 0, none⟩ = some (.int .i64 ((rd_T89 l0_2 x25_2).f0)) := (bC40 BK522.out 0).trans rfl; have hcz96_1 : w94.cell? ⟨gb522, 1, none⟩ = some (.int .i64 ((rd_T89 l0_2 x25_2).f1)) := (bC40 BK522.out 1).trans rfl; have hcz96_2 : w94.cell? ⟨gb522, 2, none⟩ = some (.int .i64 ((rd_T89 l0_2 x25_2).f2)) := (bC40 BK522.out 2).trans rfl; have hcz96_3 : w94.cell? ⟨gb522, 3, none⟩ = some (.int .i64 ((rd_T89 l0_2 x25_2).f3)) := (bC40 BK522.out 3).trans rfl; have hcz96_4 : w94.cell? ⟨gb522, 4, none⟩ = some (.int .i64 ((rd_T89 l0_2 x25_2).f4)) := (bC40 BK522.out 4).trans rfl; have hfz96_0 := blk_frozen BK522.out 0; have hfz96_1 := blk_frozen BK522.out 1; have hfz96_2 := blk_frozen BK522.out 2; have hfz96_3 := blk_frozen BK522.out 3; have hfz96_4 := blk_frozen BK522.out 4))
                    repeat (go_quiet (first | (go_at_call 80; (with_reducible refine (impl_Plan_before.calls kj66 a0_0 a0_1 _ _ l0_2 x25_2 t528 _ ?side1 ?side2 A76.out).mono ?_); (case side1 => exact nc_ (Kd.C_below HR0_2.out HB.out)); (case side2 => exact HC0_2.out); rintro e w94 ⟨rfl, hb⟩; have n0_ := Aside0.mk (bB40 (g := gb518) (o := .cells #[.int .i64 a0_0, .int .i64 a0_1, .slice (some ad521) l0_2.length c0_2] 54 (0, 0)) (nb_ BK518.out) hb); have n1_ := Aside0.mk (bB40 (g := gb522) (o := .cells #[.int .i64 ((rd_T89 l0_2 x25_2).f0), .int .i64 ((rd_T89 l0_2 x25_2).f1), .int .i64 ((rd_T89 l0_2 x25_2).f2), .int .i64 ((rd_T89 l0_2 x25_2).f3), .int .i64 ((rd_T89 l0_2 x25_2).f4)] 89 (0, 0)) (nb_ BK522.out) hb); have n2_ := Aside0.mk (eS40 (ne_ HB.out) hb); clear BK518; clear BK522; clear HB; have BK518 := n0_; have BK522 := n1_; have HB := n2_; clear n0_ n1_ n2_; (try clear hb); (try clear hb2); (try clear hk); (try clear hi); have hcz95_0 : w94.cell? ⟨gb518, 0, none⟩ = some (.int .i64 a0_0) := (bC40 BK518.out 0).trans rfl; have hcz95_1 : w94.cell? ⟨gb518, 1, none⟩ = some (.int .i64 a0_1) := (bC40 BK518.out 1).trans rfl; have hcz95_2 : w94.cell? ⟨gb518, 2, none⟩ = some (.slice (some ad521) l0_2.length c0_2) := (bC40 BK518.out 2).trans rfl; have hfz95_0 := blk_frozen BK518.out 0; have hfz95_1 := blk_frozen BK518.out 1; have hfz95_2 := blk_frozen BK518.out 2; have p529 : 0 ≤ (t528 : Int) := of_decide_eq_true nx_; have q529 : t528 < (l0_2.length : Int) := of_decide_eq_true nx_; obtain ⟨ad529, e529, hx529_0, hx529_1, hx529_2, hx529_3, hx529_4⟩ := at_T89 HR0_2.out t528 p529 q529; obtain rfl : ad521 = ad529 := (by injection e529); replace hx529_0 := (HB.out.cell (World.block_lt_of_cell? w _ hx529_0)).trans hx529_0; replace hx529_1 := (HB.out.cell (World.block_lt_of_cell? w _ hx529_1)).trans hx529_1; replace hx529_2 := (HB.out.cell (World.block_lt_of_cell? w _ hx529_2)).trans hx529_2; replace hx529_3 := (HB.out.cell (World.block_lt_of_cell? w _ hx529_3)).trans hx529_3; replace hx529_4 := (HB.out.cell (World.block_lt_of_cell? w _ hx529_4)).trans hx529_4; replace p529 := eq_true p529; replace q529 := eq_true q529; have hcz96_0 : w94.cell? ⟨gb522, 0, none⟩ = some (.int .i64 ((rd_T89 l0_2 x25_2).f0)) := (bC40 BK522.out 0).trans rfl; have hcz96_1 : w94.cell? ⟨gb522, 1, none⟩ = some (.int .i64 ((rd_T89 l0_2 x25_2).f1)) := (bC40 BK522.out 1).trans rfl; have hcz96_2 : w94.cell? ⟨gb522, 2, none⟩ = some (.int .i64 ((rd_T89 l0_2 x25_2).f2)) := (bC40 BK522.out 2).trans rfl; have hcz96_3 : w94.cell? ⟨gb522, 3, none⟩ = some (.int .i64 ((rd_T89 l0_2 x25_2).f3)) := (bC40 BK522.out 3).trans rfl; have hcz96_4 : w94.cell? ⟨gb522, 4, none⟩ = some (.int .i64 ((rd_T89 l0_2 x25_2).f4)) := (bC40 BK522.out 4).trans rfl; have hfz96_0 := blk_frozen BK522.out 0; have hfz96_1 := blk_frozen BK522.out 1; have hfz96_2 := blk_frozen BK522.out 2; have hfz96_3 := blk_frozen BK522.out 3; have hfz96_4 := blk_frozen BK522.out 4)); try go_wp2_with (first | (go_at_call 80; (with_reducible refine (impl_Plan_before.calls kj66 a0_0 a0_1 _ _ l0_2 x25_2 t528 _ ?side1 ?side2 A76.out).mono ?_); (case side1 => exact nc_ (Kd.C_below HR0_2.out HB.out)); (case side2 => exact HC0_2.out); rintro e w94 ⟨rfl, hb⟩; have n0_ := Aside0.mk (bB40 (g := gb518) (o := .cells #[.int .i64 a0_0, .int .i64 a0_1, .slice (some ad521) l0_2.length c0_2] 54 (0, 0)) (nb_ BK518.out) hb); have n1_ := Aside0.mk (bB40 (g := gb522) (o := .cells #[.int .i64 ((rd_T89 l0_2 x25_2).f0), .int .i64 ((rd_T89 l0_2 x25_2).f1), .int .i64 ((rd_T89 l0_2 x25_2).f2), .int .i64 ((rd_T89 l0_2 x25_2).f3), .int .i64 ((rd_T89 l0_2 x25_2).f4)] 89 (0, 0)) (nb_ BK522.out) hb); have n2_ := Aside0.mk (eS40 (ne_ HB.out) hb); clear BK518; clear BK522; clear HB; have BK518 := n0_; have BK522 := n1_; have HB := n2_; clear n0_ n1_ n2_; (try clear hb); (try clear hb2); (try clear hk); (try clear hi); have hcz95_0 : w94.cell? ⟨gb518, 0, none⟩ = some (.int .i64 a0_0) := (bC40 BK518.out 0).trans rfl; have hcz95_1 : w94.cell? ⟨gb518, 1, none⟩ = some (.int .i64 a0_1) := (bC40 BK518.out 1).trans rfl; have hcz95_2 : w94.cell? ⟨gb518, 2, none⟩ = some (.slice (some ad521) l0_2.length c0_2) := (bC40 BK518.out 2).trans rfl; have hfz95_0 := blk_frozen BK518.out 0; have hfz95_1 := blk_frozen BK518.out 1; have hfz95_2 := blk_frozen BK518.out 2; have p529 : 0 ≤ (t528 : Int) := of_decide_eq_true nx_; have q529 : t528 < (l0_2.length : Int) := of_decide_eq_true nx_; obtain ⟨ad529, e529, hx529_0, hx529_1, hx529_2, hx529_3, hx529_4⟩ := at_T89 HR0_2.out t528 p529 q529; obtain rfl : ad521 = ad529 := (by injection e529); replace hx529_0 := (HB.out.cell (World.block_lt_of_cell? w _ hx529_0)).trans hx529_0; replace hx529_1 := (HB.out.cell (World.block_lt_of_cell? w _ hx529_1)).trans hx529_1; replace hx529_2 := (HB.out.cell (World.block_lt_of_cell? w _ hx529_2)).trans hx529_2; replace hx529_3 := (HB.out.cell (World.block_lt_of_cell? w _ hx529_3)).trans hx529_3; replace hx529_4 := (HB.out.cell (World.block_lt_of_cell? w _ hx529_4)).trans hx529_4; replace p529 := eq_true p529; replace q529 := eq_true q529; have hcz96_0 : w94.cell? ⟨gb522, 0, none⟩ = some (.int .i64 ((rd_T89 l0_2 x25_2).f0)) := (bC40 BK522.out 0).trans rfl; have hcz96_1 : w94.cell? ⟨gb522, 1, none⟩ = some (.int .i64 ((rd_T89 l0_2 x25_2).f1)) := (bC40 BK522.out 1).trans rfl; have hcz96_2 : w94.cell? ⟨gb522, 2, none⟩ = some (.int .i64 ((rd_T89 l0_2 x25_2).f2)) := (bC40 BK522.out 2).trans rfl; have hcz96_3 : w94.cell? ⟨gb522, 3, none⟩ = some (.int .i64 ((rd_T89 l0_2 x25_2).f3)) := (bC40 BK522.out 3).trans rfl; have hcz96_4 : w94.cell? ⟨gb522, 4, none⟩ = some (.int .i64 ((rd_T89 l0_2 x25_2).f4)) := (bC40 BK522.out 4).trans rfl; have hfz96_0 := blk_frozen BK522.out 0; have hfz96_1 := blk_frozen BK522.out 1; have hfz96_2 := blk_frozen BK522.out 2; have hfz96_3 := blk_frozen BK522.out 3; have hfz96_4 := blk_frozen BK522.out 4)))
                    go_ret
                    exact ⟨by first | rfl | (simp [errW_none, errW_some] <;> rfl) | (simp [*, errW_none, errW_some] <;> rfl), by repeat (first | (with_reducible first | exact HB.out | apply below_alloc | apply pw_below_drewN | apply below_drew1 | refine below_set ?_ GE518.out | refine below_set ?_ GE522.out) | exact HB.out)⟩
                  ·rw [if_neg c79] at H
                   exact absurd H (by simp)
                 ·rw [if_neg c78] at H
                  exact absurd H (by simp)
                ·rw [if_neg c77] at H
                 have c77b0 : decide (0 ≤ t528) = false := decide_eq_false c77
                 clear c77
                 have H' := Aside0.mk H
                 clear H
                 have hnb97 := NB518_522.out
                 have hnc97 := NB522_518.out
                 have hcz98_0 : wc.cell? ⟨gb518, 0, none⟩ = some (.int .i64 a0_0) := (bC40 BK518.out 0).trans rfl
                 have hcz98_1 : wc.cell? ⟨gb518, 1, none⟩ = some (.int .i64 a0_1) := (bC40 BK518.out 1).trans rfl
                 have hcz98_2 : wc.cell? ⟨gb518, 2, none⟩ = some (.slice (some ad521) l0_2.length c0_2) := (bC40 BK518.out 2).trans rfl
                 have hfz98_0 := blk_frozen BK518.out 0
                 have hfz98_1 := blk_frozen BK518.out 1
                 have hfz98_2 := blk_frozen BK518.out 2
                 go_wp2_with (first | (go_at_call 80; (with_reducible refine (impl_Plan_before.calls kj66 a0_0 a0_1 _ _ l0_2 x25_2 t528 _ ?side1 ?side2 A76.out).mono ?_); (case side1 => exact nc_ (Kd.C_below HR0_2.out HB.out)); (case side2 => exact HC0_2.out); rintro e w99 ⟨rfl, hb⟩; have n0_ := Aside0.mk (bB40 (g := gb518) (o := .cells #[.int .i64 a0_0, .int .i64 a0_1, .slice (some ad521) l0_2.length c0_2] 54 (0, 0)) (nb_ BK518.out) hb); have n1_ := Aside0.mk (bB40 (g := gb522) (o := .cells #[.int .i64 ((rd_T89 l0_2 x25_2).f0), .int .i64 ((rd_T89 l0_2 x25_2).f1), .int .i64 ((rd_T89 l0_2 x25_2).f2), .int .i64 ((rd_T89 l0_2 x25_2).f3), .int .i64 ((rd_T89 l0_2 x25_2).f4)] 89 (0, 0)) (nb_ BK522.out) hb); have n2_ := Aside0.mk (eS40 (ne_ HB.out) hb); clear BK518; clear BK522; clear HB; have BK518 := n0_; have BK522 := n1_; have HB := n2_; clear n0_ n1_ n2_; (try clear hb); (try clear hb2); (try clear hk); (try clear hi)))
                 repeat (go_quiet (first | (go_at_call 80; (with_reducible refine (impl_Plan_before.calls kj66 a0_0 a0_1 _ _ l0_2 x25_2 t528 _ ?side1 ?side2 A76.out).mono ?_); (case side1 => exact nc_ (Kd.C_below HR0_2.out HB.out)); (case side2 => exact HC0_2.out); rintro e w99 ⟨rfl, hb⟩; have n0_ := Aside0.mk (bB40 (g := gb518) (o := .cells #[.int .i64 a0_0, .int .i64 a0_1, .slice (some ad521) l0_2.length c0_2] 54 (0, 0)) (nb_ BK518.out) hb); have n1_ := Aside0.mk (bB40 (g := gb522) (o := .cells #[.int .i64 ((rd_T89 l0_2 x25_2).f0), .int .i64 ((rd_T89 l0_2 x25_2).f1), .int .i64 ((rd_T89 l0_2 x25_2).f2), .int .i64 ((rd_T89 l0_2 x25_2).f3), .int .i64 ((rd_T89 l0_2 x25_2).f4)] 89 (0, 0)) (nb_ BK522.out) hb); have n2_ := Aside0.mk (eS40 (ne_ HB.out) hb); clear BK518; clear BK522; clear HB; have BK518 := n0_; have BK522 := n1_; have HB := n2_; clear n0_ n1_ n2_; (try clear hb); (try clear hb2); (try clear hk); (try clear hi))); try go_wp2_with (first | (go_at_call 80; (with_reducible refine (impl_Plan_before.calls kj66 a0_0 a0_1 _ _ l0_2 x25_2 t528 _ ?side1 ?side2 A76.out).mono ?_); (case side1 => exact nc_ (Kd.C_below HR0_2.out HB.out)); (case side2 => exact HC0_2.out); rintro e w99 ⟨rfl, hb⟩; have n0_ := Aside0.mk (bB40 (g := gb518) (o := .cells #[.int .i64 a0_0, .int .i64 a0_1, .slice (some ad521) l0_2.length c0_2] 54 (0, 0)) (nb_ BK518.out) hb); have n1_ := Aside0.mk (bB40 (g := gb522) (o := .cells #[.int .i64 ((rd_T89 l0_2 x25_2).f0), .int .i64 ((rd_T89 l0_2 x25_2).f1), .int .i64 ((rd_T89 l0_2 x25_2).f2), .int .i64 ((rd_T89 l0_2 x25_2).f3), .int .i64 ((rd_T89 l0_2 x25_2).f4)] 89 (0, 0)) (nb_ BK522.out) hb); have n2_ := Aside0.mk (eS40 (ne_ HB.out) hb); clear BK518; clear BK522; clear HB; have BK518 := n0_; have BK522 := n1_; have HB := n2_; clear n0_ n1_ n2_; (try clear hb); (try clear hb2); (try clear hk); (try clear hi))))
                 go_roundg kj66
                 case measure => have := HJ1.out; have := HK2.out; have := HJ15.out; have := HJ66.out; omega
                 case rel => exact ⟨(wrap64 (x25_2 + 1)), ns_, H', ⟨by have := HJ1.out; have := HK2.out; have := HJ15.out; have := HJ66.out; omega⟩, ⟨by (with_reducible repeat (first | refine bN40 ?_ _ | refine bD40 ?_ | refine bA40 ?_ _)); exact BK518.out⟩, ⟨by repeat (first | (with_reducible first | exact HB.out | apply below_alloc | apply pw_below_drewN | apply below_drew1 | refine below_set ?_ GE518.out | refine below_set ?_ GE522.out) | exact HB.out)⟩⟩
         ·rw [if_neg c15] at H
          exact absurd H (by simp)
        ·rw [if_neg c14] at H
         exact absurd H (by simp)
       ·rw [if_neg c13] at H
        have c13b0 : decide (x25_2 < (l0_2.length : Int)) = false := decide_eq_false c13
        clear c13
        obtain rfl := Option.some.inj H
        go_wp2
        repeat (go_quiet (fail); try go_wp2)
        go_ret
        exact ⟨by first | rfl | (simp [errW_none, errW_some] <;> rfl) | (simp [*, errW_none, errW_some] <;> rfl), by repeat (first | (with_reducible first | exact HB.out | apply below_alloc | apply pw_below_drewN | apply below_drew1 | refine below_set ?_ GE518.out) | exact HB.out)⟩

end Go.Proofs.Ytpjmkghmjpbldaa.Print
