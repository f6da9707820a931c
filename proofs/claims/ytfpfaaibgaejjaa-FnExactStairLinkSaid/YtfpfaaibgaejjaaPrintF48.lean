-- Made by this session's own program (wip/patch_print.py, over the kit's print). Lean checks it.
import Derived.Test.YtfpfaaibgaejjaaPrint0
import Derived.Test.YtfpfaaibgaejjaaPrintF59
namespace Go.Proofs.Ytfpfaaibgaejjaa.Print
open Go.RowKit Go.Proofs.YtfpfaaibgaejjaaW.PrintWords Go.Proofs.YtfpfaaibgaejjaaW.PrintLast Go.Proofs.YtfpfaaibgaejjaaW.PrintMore Go.Proofs.YtfpfaaibgaejjaaX
attribute [local go_sem] max2_int min2_int max_two min_two max_three min_three max_four min_four   -- for this text's walks alone
set_option linter.unusedVariables false
set_option linter.unusedSimpArgs false

/-! ### impl_Step_48: function 48 -/
mutual
def impl_Step_48.l0 : Nat → List (List (S36)) → Int → List (List (S36)) → Int → Int → Option ((List (S36)))
  | 0, _, _, _, _, _ => none
  | k + 1, x0, x3, x9, x10, x11 => if x11 < x10 then (if 0 ≤ x11 then (if x11 < (x9.length : Int) then (if (wrap64 (x3 + ((rd_L4 x9 x11).length : Int))) < 0 then (none) else (impl_Step_48.l0 k x0 (wrap64 (x3 + ((rd_L4 x9 x11).length : Int))) x9 x10 (wrap64 (x11 + 1)))) else (none)) else (none)) else ((impl_Step_59.f ([] : List (S36)) x3).bind fun t539 => (impl_Step_48.l1 k t539 x0 (x0.length : Int) 0))
def impl_Step_48.l1 : Nat → List (S36) → List (List (S36)) → Int → Int → Option ((List (S36)))
  | 0, _, _, _, _ => none
  | k + 1, x6, x25, x26, x27 => if x27 < x26 then (if 0 ≤ x27 then (if x27 < (x25.length : Int) then (if x6.length + (rd_L4 x25 x27).length < 8796093022208 then (impl_Step_48.l1 k (x6 ++ (rd_L4 x25 x27)) x25 x26 (wrap64 (x27 + 1))) else (none)) else (none)) else (none)) else (some x6)
end
def impl_Step_48.f (k : Nat) (l0 : List (List (S36))) : Option ((List (S36))) := impl_Step_48.l0 k l0 0 l0 (l0.length : Int) 0
theorem impl_Step_48.mono_l : ∀ k, (∀ y0 y1 y2 y3 y4, LeO (impl_Step_48.l0 k y0 y1 y2 y3 y4) (impl_Step_48.l0 (k + 1) y0 y1 y2 y3 y4)) ∧ (∀ y0 y1 y2 y3, LeO (impl_Step_48.l1 k y0 y1 y2 y3) (impl_Step_48.l1 (k + 1) y0 y1 y2 y3))
  | 0 => ⟨fun _ _ _ _ _ r h => by simp [impl_Step_48.l0] at h, fun _ _ _ _ r h => by simp [impl_Step_48.l1] at h⟩
  | k + 1 => by
    obtain ⟨ih0, ih1⟩ := impl_Step_48.mono_l k
    refine ⟨?_, ?_⟩
    · intro y0 y1 y2 y3 y4
      unfold impl_Step_48.l0
      repeat' first | (with_reducible first | exact ih0 _ _ _ _ _ | exact ih1 _ _ _ _ | exact LeO.refl _ | exact LeO.none _ | refine LeO.ite ?_ ?_ | refine LeO.bind ?_ (fun _ => ?_)) | exact ih0 _ _ _ _ _ | exact ih1 _ _ _ _ | exact LeO.none _ | refine LeO.ite ?_ ?_ | refine LeO.bind ?_ (fun _ => ?_)
    · intro y0 y1 y2 y3
      unfold impl_Step_48.l1
      repeat' first | (with_reducible first | exact ih0 _ _ _ _ _ | exact ih1 _ _ _ _ | exact LeO.refl _ | exact LeO.none _ | refine LeO.ite ?_ ?_ | refine LeO.bind ?_ (fun _ => ?_)) | exact ih0 _ _ _ _ _ | exact ih1 _ _ _ _ | exact LeO.none _ | refine LeO.ite ?_ ?_ | refine LeO.bind ?_ (fun _ => ?_)
theorem impl_Step_48.mono : ∀ a0 k, LeO (impl_Step_48.f k a0) (impl_Step_48.f (k + 1) a0) := by
  intro a0 k
  obtain ⟨ih0, ih1⟩ := impl_Step_48.mono_l k
  unfold impl_Step_48.f
  repeat' first | (with_reducible first | exact ih0 _ _ _ _ _ | exact ih1 _ _ _ _ | exact LeO.refl _ | exact LeO.none _ | refine LeO.ite ?_ ?_ | refine LeO.bind ?_ (fun _ => ?_)) | exact ih0 _ _ _ _ _ | exact ih1 _ _ _ _ | exact LeO.none _ | refine LeO.ite ?_ ?_ | refine LeO.bind ?_ (fun _ => ?_)
set_option maxHeartbeats 200000000 in
set_option maxRecDepth 100000 in
theorem impl_Step_48.calls (k : Nat) (A0 : Option Addr) (c0 : Nat) (l0 : List (List (S36))) (r : List (S36)) (w : World) (hr0 : Kd.C (Kd.slice 36 k36) w A0 l0.length l0) (hc0 : l0.length ≤ c0) (h : impl_Step_48.f k l0 = some r) :
    Calls Try.prog 48 #[.slice A0 l0.length c0] w fun e w' => ∃ v0_ : Value, e = .returned (v0_) ∧ Kd.R k36 36 w' w.heap.size (fun _ => True) v0_ r ∧ Below w.heap.size w w' := by
  have HR0 := Aside0.mk hr0
  have HC0 := Aside0.mk hc0
  clear hr0 hc0
  have HB := Aside0.mk (Below.refl w.heap.size w)
  have H : (impl_Step_48.l0 k l0 0 l0 (l0.length : Int) 0) = some r := h
  clear h
  have H' := Aside0.mk H
  clear H
  go_enter Try.func48, Try.ntmps48
  go_wp2
  go_loopg [3, 11] k (fun kq v3 v11 w' => ∃ (x3_1 : Int) (x11_1 : Int), v3 = .int .i64 x3_1 ∧ v11 = .int .i64 x11_1 ∧ Aside0 (impl_Step_48.l0 kq l0 x3_1 l0 (l0.length : Int) x11_1 = some r) ∧ Aside0 (kq ≤ k) ∧ Aside0 (Below w.heap.size w w'))
  case atStart => exact ⟨(0), (0), ns_, ns_, H', ⟨Nat.le_refl _⟩, ⟨ne_ HB.out⟩⟩
  case round =>
   clear H'
   obtain ⟨x3_1, x11_1, rfl, rfl, HA, HK1, HB⟩ := hrel
   cases gk with
   | zero => exact absurd HA.out (by simp [impl_Step_48.l0])
   | succ k1 =>
    have H := HA.out
    clear HA
    simp only [impl_Step_48.l0] at H
    by_cases c2 : x11_1 < (l0.length : Int)
    ·rw [if_pos c2] at H
     have c2b0 : decide (x11_1 < (l0.length : Int)) = true := decide_eq_true c2
     clear c2
     by_cases c3 : 0 ≤ x11_1
     rotate_left
     ·rw [if_neg c3] at H
      exact absurd H (by simp)
     rw [if_pos c3] at H
     have c3b0 : decide (0 ≤ x11_1) = true := decide_eq_true c3
     clear c3
     by_cases c4 : x11_1 < (l0.length : Int)
     rotate_left
     ·rw [if_neg c4] at H
      exact absurd H (by simp)
     rw [if_pos c4] at H
     have c4b0 : decide (x11_1 < (l0.length : Int)) = true := decide_eq_true c4
     clear c4
     by_cases c5 : (wrap64 (x3_1 + ((rd_L4 l0 x11_1).length : Int))) < 0
     ·rw [if_pos c5] at H
      exact absurd H (by simp)
     rw [if_neg c5] at H
     have c5b0 : decide ((wrap64 (x3_1 + ((rd_L4 l0 x11_1).length : Int))) < 0) = false := decide_eq_false c5
     clear c5
     have H' := Aside0.mk H
     clear H
     have p538 : 0 ≤ (x11_1 : Int) := of_decide_eq_true nx_
     have q538 : x11_1 < (l0.length : Int) := of_decide_eq_true nx_
     obtain ⟨ad538, A538_0, c538_0, e538, hx538_0, hl538_0, hi538_0⟩ := at_L4 HR0.out x11_1 p538 q538
     cases e538
     replace hx538_0 := hb_ HB.out hx538_0
     have HR538_0 := Aside0.mk hi538_0
     have HC538_0 := Aside0.mk hl538_0
     clear hi538_0 hl538_0
     replace p538 := eq_true p538
     replace q538 := eq_true q538
     go_wp2
     go_roundg k1
     case measure => have := HK1.out; omega
     case rel => exact ⟨(wrap64 (x3_1 + ((rd_L4 l0 x11_1).length : Int))), (wrap64 (x11_1 + 1)), ns_, ns_, H', ⟨by have := HK1.out; omega⟩, ⟨ne_ HB.out⟩⟩
    rw [if_neg c2] at H
    have c2b0 : decide (x11_1 < (l0.length : Int)) = false := decide_eq_false c2
    clear c2
    replace H := Option.bind_eq_some_iff.mp H
    obtain ⟨t539, A60, H⟩ := H
    replace H : (impl_Step_48.l1 k1 t539 l0 (l0.length : Int) 0) = some r := H
    have A6 := Aside0.mk A60
    clear A60
    have H' := Aside0.mk H
    clear H
    go_wp2_with (first | ((with_reducible refine gate_callee (f := 59) rfl ?_); refine gl_ (some 24) Try.func59 #[.slice none 0 0, .int .i64 x3_1] ?_; (refine (impl_Step_59.calls _ _ ([] : List (S36)) x3_1 t539 _ ?side1 ?side2 A6.out).mono ?_); (case side1 => exact Kd.C_nil _ _); (case side2 => exact Nat.le_refl _); rintro e w7 ⟨v540, rfl, ho0, hb⟩; refine ⟨_, rfl, ?_⟩; have HO541 := Aside0.mk (Kd.R_lower ho0 (below_size (ne_ HB.out))); replace HB := kB_ HB hb; (try clear hb); (try clear hb2); (try clear hk); (try clear hi); (try clear ho0)))
    go_loopg [6, 27] k1 (fun kq v6 v27 w' => ∃ (x6_2 : List (S36)) (x27_2 : Int), v27 = .int .i64 x27_2 ∧ Aside0 (impl_Step_48.l1 kq x6_2 l0 (l0.length : Int) x27_2 = some r) ∧ Aside0 (kq ≤ k1) ∧ Aside0 (Kd.R k36 36 w' w.heap.size (fun _ => True) v6 x6_2) ∧ Aside0 (Below w.heap.size w w'))
    case atStart => exact ⟨(t539), (0), ns_, H', ⟨Nat.le_refl _⟩, ⟨nr_ HO541.out⟩, ⟨ne_ HB.out⟩⟩
    case round =>
     clear H'
     try clear c2
     try clear c2b0
     obtain ⟨x6_2, x27_2, rfl, HA, HK2, HO_6, HB⟩ := hrel
     cases gk with
     | zero => exact absurd HA.out (by simp [impl_Step_48.l1])
     | succ k2 =>
      have H := HA.out
      clear HA
      simp only [impl_Step_48.l1] at H
      by_cases c8 : x27_2 < (l0.length : Int)
      rotate_left
      ·rw [if_neg c8] at H
       have c8b0 : decide (x27_2 < (l0.length : Int)) = false := decide_eq_false c8
       clear c8
       obtain rfl := Option.some.inj H
       go_wp2
       go_ret
       exact ⟨_, nw_, nr_ HO_6.out, ne_ HB.out⟩

      rw [if_pos c8] at H
      have c8b0 : decide (x27_2 < (l0.length : Int)) = true := decide_eq_true c8
      clear c8
      by_cases c9 : 0 ≤ x27_2
      rotate_left
      ·rw [if_neg c9] at H
       exact absurd H (by simp)
      rw [if_pos c9] at H
      have c9b0 : decide (0 ≤ x27_2) = true := decide_eq_true c9
      clear c9
      by_cases c10 : x27_2 < (l0.length : Int)
      rotate_left
      ·rw [if_neg c10] at H
       exact absurd H (by simp)
      rw [if_pos c10] at H
      have c10b0 : decide (x27_2 < (l0.length : Int)) = true := decide_eq_true c10
      clear c10
      by_cases c11 : x6_2.length + (rd_L4 l0 x27_2).length < 8796093022208
      rotate_left
      ·rw [if_neg c11] at H
       exact absurd H (by simp)
      rw [if_pos c11] at H
      have LMc11 := Aside0.mk c11
      clear c11
      obtain ⟨y543, hy543⟩ : ∃ y_ : List (S36), y_ = (x6_2 ++ (rd_L4 l0 x27_2)) := ⟨_, rfl⟩
      replace H : (impl_Step_48.l1 k2 y543 l0 (l0.length : Int) (wrap64 (x27_2 + 1))) = some r := by first | (rw [hy543]; with_reducible exact H) | (have H2_ := (Option.bind_some _ _).symm.trans H; rw [hy543]; with_reducible exact H2_) | (have H2_ := (Option.bind_some _ _).symm.trans H; with_reducible exact H2_) | with_reducible exact H | (rw [hy543]; exact H) | exact H
      have Ny543 := Aside0.mk hy543
      clear hy543
      have H' := Aside0.mk H
      clear H
      have p542 : 0 ≤ (x27_2 : Int) := of_decide_eq_true nx_
      have q542 : x27_2 < (l0.length : Int) := of_decide_eq_true nx_
      obtain ⟨ad542, A542_0, c542_0, e542, hx542_0, hl542_0, hi542_0⟩ := at_L4 HR0.out x27_2 p542 q542
      cases e542
      replace hx542_0 := hb_ HB.out hx542_0
      have HR542_0 := Aside0.mk hi542_0
      have HC542_0 := Aside0.mk hl542_0
      clear hi542_0 hl542_0
      replace p542 := eq_true p542
      replace q542 := eq_true q542
      go_wp2_with (first | ((with_reducible refine gate_builtin (b := .append) (xs := #[.tmp 31, .tmp 32]) rfl ?_); at_builtin; refine Kd.R_append_rows k36 (w0 := w) w.heap.size rfl (.tmp 31) (.tmp 32) 22 36 (.agg #[(.int .i64 0), (.int .i64 0)]) 16 rfl Try.underlying22 info36 rfl (by decide) (by omega) u6 x6_2 (rd_L4 l0 x27_2) _ _ _ (fun _ => True) (fun _ => False) rfl rfl ?aO ?aR (fun _ _ h => h) (fun _ h => h.elim) ?aF ?aB ?aS ?aL ?_; (case aR => repeat (first | exact (Kd.C_below HR542_0.out HB.out) | (with_reducible refine Kd.C_alloc ?_ _) | (with_reducible refine Kd.C_drewN ?_ _) | (with_reducible refine Kd.C_drew ?_))); (case aB => exact (ne_ HB.out)); (case aF => exact (fun _ _ => trivial)); (case aO => exact (nr_ HO_6.out)); (case aS => exact (below_size (ne_ HB.out))); (case aL => have := LMc11.out; omega); intro v544 w12 ho hb hg hat; rw [← Ny543.out] at ho; have HO545 := Aside0.mk (ho); replace HB := Aside0.mk (hb); clear HO_6; clear ho hb hg hat))
      go_roundg k2
      case measure => have := HK1.out; have := HK2.out; omega
      case rel => exact ⟨(y543), (wrap64 (x27_2 + 1)), ns_, H', ⟨by have := HK1.out; have := HK2.out; omega⟩, ⟨nr_ HO545.out⟩, ⟨ne_ HB.out⟩⟩
end Go.Proofs.Ytfpfaaibgaejjaa.Print
