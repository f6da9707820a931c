-- Made by this session's own program (wip/patch_print.py, over the kit's print). Lean checks it.
import Derived.Test.YtfpfaaibgaejjaaPrint0
import Derived.Test.YtfpfaaibgaejjaaPrintB
namespace Go.Proofs.Ytfpfaaibgaejjaa.Print
open Go.RowKit Go.Proofs.YtfpfaaibgaejjaaW.PrintWords Go.Proofs.YtfpfaaibgaejjaaW.PrintLast Go.Proofs.YtfpfaaibgaejjaaW.PrintMore Go.Proofs.YtfpfaaibgaejjaaX
attribute [local go_sem] max2_int min2_int max_two min_two max_three min_three max_four min_four   -- for this text's walks alone
set_option linter.unusedVariables false
set_option linter.unusedSimpArgs false

/-! ### spec_StairWalk: function 11 -/
mutual
def spec_StairWalk.j0 : Nat → Int → Int → Int → List (S36) → Bool → Option ((List (S36)))
  | 0, _, _, _, _, _ => none
  | k + 1, x0, x1, x2, x7, x22 => if x22 = true then (some ([] : List (S36))) else (spec_StairWalk.l0 k x0 x2 x7 x1)
def spec_StairWalk.l0 : Nat → Int → Int → List (S36) → Int → Option ((List (S36)))
  | 0, _, _, _, _ => none
  | k + 1, x0, x2, x7, x8 => if (wrap64 (x8 + x0)) ≤ 199 then (if (x7.length : Int) < 12 then (if x7.length < 8796093022208 then (spec_StairWalk.l0 k x0 x2 (x7 ++ [(⟨x8, wrap64 (x8 + x0)⟩ : S36)]) (wrap64 (x8 + x2))) else (none)) else (some x7)) else (some x7)
end
def spec_StairWalk.f (k : Nat) (a0 : Int) (a1 : Int) (a2 : Int) : Option ((List (S36))) := (some (([] : List (S36)) : List (S36))).bind fun y101 => ((spec_l1In.f a0 0 199).bind fun t104 => (if t104 = true then ((spec_l1In.f a1 0 199).bind fun t105 => (if t105 = true then ((spec_l1In.f a2 1 199).bind fun t106 => (spec_StairWalk.j0 k a0 a1 a2 y101 (!t106))) else (spec_StairWalk.j0 k a0 a1 a2 y101 true))) else (spec_StairWalk.j0 k a0 a1 a2 y101 true)))
theorem spec_StairWalk.mono_l : ∀ k, (∀ y0 y1 y2 y3 y4, LeO (spec_StairWalk.j0 k y0 y1 y2 y3 y4) (spec_StairWalk.j0 (k + 1) y0 y1 y2 y3 y4)) ∧ (∀ y0 y1 y2 y3, LeO (spec_StairWalk.l0 k y0 y1 y2 y3) (spec_StairWalk.l0 (k + 1) y0 y1 y2 y3))
  | 0 => ⟨fun _ _ _ _ _ r h => by simp [spec_StairWalk.j0] at h, fun _ _ _ _ r h => by simp [spec_StairWalk.l0] at h⟩
  | k + 1 => by
    obtain ⟨ih0, ih1⟩ := spec_StairWalk.mono_l k
    refine ⟨?_, ?_⟩
    · intro y0 y1 y2 y3 y4
      unfold spec_StairWalk.j0
      repeat' first | (with_reducible first | exact ih0 _ _ _ _ _ | exact ih1 _ _ _ _ | exact LeO.refl _ | exact LeO.none _ | refine LeO.ite ?_ ?_ | refine LeO.bind ?_ (fun _ => ?_)) | exact ih0 _ _ _ _ _ | exact ih1 _ _ _ _ | exact LeO.none _ | refine LeO.ite ?_ ?_ | refine LeO.bind ?_ (fun _ => ?_)
    · intro y0 y1 y2 y3
      unfold spec_StairWalk.l0
      repeat' first | (with_reducible first | exact ih0 _ _ _ _ _ | exact ih1 _ _ _ _ | exact LeO.refl _ | exact LeO.none _ | refine LeO.ite ?_ ?_ | refine LeO.bind ?_ (fun _ => ?_)) | exact ih0 _ _ _ _ _ | exact ih1 _ _ _ _ | exact LeO.none _ | refine LeO.ite ?_ ?_ | refine LeO.bind ?_ (fun _ => ?_)
theorem spec_StairWalk.mono : ∀ a0 a1 a2 k, LeO (spec_StairWalk.f k a0 a1 a2) (spec_StairWalk.f (k + 1) a0 a1 a2) := by
  intro a0 a1 a2 k
  obtain ⟨ih0, ih1⟩ := spec_StairWalk.mono_l k
  unfold spec_StairWalk.f
  repeat' first | (with_reducible first | exact ih0 _ _ _ _ _ | exact ih1 _ _ _ _ | exact LeO.refl _ | exact LeO.none _ | refine LeO.ite ?_ ?_ | refine LeO.bind ?_ (fun _ => ?_)) | exact ih0 _ _ _ _ _ | exact ih1 _ _ _ _ | exact LeO.none _ | refine LeO.ite ?_ ?_ | refine LeO.bind ?_ (fun _ => ?_)
set_option maxHeartbeats 200000000 in
set_option maxRecDepth 100000 in
theorem spec_StairWalk.calls (k : Nat) (a0 : Int) (a1 : Int) (a2 : Int) (r : List (S36)) (w : World) (h : spec_StairWalk.f k a0 a1 a2 = some r) :
    Calls Try.prog 11 #[.int .i64 a0, .int .i64 a1, .int .i64 a2] w fun e w' => ∃ v0_ : Value, e = .returned (v0_) ∧ Kd.R k36 36 w' w.heap.size (fun _ => True) v0_ r ∧ Below w.heap.size w w' := by
  have hu36 := Try.underlying36
  have HB := Aside0.mk (Below.refl w.heap.size w)
  have H : ((some (([] : List (S36)) : List (S36))).bind fun y101 => ((spec_l1In.f a0 0 199).bind fun t104 => (if t104 = true then ((spec_l1In.f a1 0 199).bind fun t105 => (if t105 = true then ((spec_l1In.f a2 1 199).bind fun t106 => (spec_StairWalk.j0 k a0 a1 a2 y101 (!t106))) else (spec_StairWalk.j0 k a0 a1 a2 y101 true))) else (spec_StairWalk.j0 k a0 a1 a2 y101 true)))) = some r := h
  clear h
  obtain ⟨y101, hy101⟩ : ∃ y_ : List (S36), y_ = (([] : List (S36))) := ⟨_, rfl⟩
  replace H : ((spec_l1In.f a0 0 199).bind fun t104 => (if t104 = true then ((spec_l1In.f a1 0 199).bind fun t105 => (if t105 = true then ((spec_l1In.f a2 1 199).bind fun t106 => (spec_StairWalk.j0 k a0 a1 a2 y101 (!t106))) else (spec_StairWalk.j0 k a0 a1 a2 y101 true))) else (spec_StairWalk.j0 k a0 a1 a2 y101 true))) = some r := by first | (rw [hy101]; with_reducible exact H) | (have H2_ := (Option.bind_some _ _).symm.trans H; rw [hy101]; with_reducible exact H2_) | (have H2_ := (Option.bind_some _ _).symm.trans H; with_reducible exact H2_) | with_reducible exact H | (rw [hy101]; exact H) | exact H
  have Ny101 := Aside0.mk hy101
  clear hy101
  have HC4 := Aside0.mk H
  clear H
  go_enter Try.func11, Try.ntmps11
  go_upto_region 2 with (first | ((with_reducible refine gate_dst (N := 9) rfl ?_); (try (refine gate_guard (by rfl) ?_; dsimp only)); refine Kd.R_lit k36 _ 36 ?hg (N := 9) ?hd (xs := ([] : List (S36))) (inner := []) (ok := fun _ => True) (okp := fun _ => True) ?hr ?hp (fun _ hk => hk) trivial (Below.refl _ _) (Nat.le_refl _) (by simp) ?_; (case hd => rfl); (case hg => rfl); (case hr => first | (go_simp; done) | (go_simp; rfl)); (case hp => exact (Reps.none _ _)); intro v102 w5 ho6 hb hg_ hnew_; clear hg_ hnew_; (first | rw [← Ny101.out] at ho6 | (simp only [Int.reduceToNat] at ho6; rw [← Ny101.out] at ho6)); have HO103 := Aside0.mk (Kd.R_lower ho6 (below_size (ne_ HB.out))); replace HB := kB_ HB hb; clear hb ho6))
  (try simp only [Act.put, List.setIfInBounds_toArray, List.set_cons_zero, List.set_cons_succ])
  go_cut [22] (fun v22 wc => ∃ (kq : Nat) (x22_3 : Bool), v22 = .bool x22_3 ∧ Aside0 (spec_StairWalk.j0 kq a0 a1 a2 y101 x22_3 = some r) ∧ Aside0 (kq ≤ k) ∧ Aside0 (Kd.R k36 36 wc w.heap.size (fun _ => True) v102 y101) ∧ Aside0 (Below w.heap.size w wc))
  case first =>
   have H := HC4.out
   clear HC4
   replace H := Option.bind_eq_some_iff.mp H
   obtain ⟨t104, A70, H⟩ := H
   try dsimp only at H
   have A7 := Aside0.mk A70
   clear A70
   by_cases c8 : t104 = true
   rotate_left
   ·replace c8 := Bool.eq_false_iff.mpr c8
    subst c8
    have H1 : (spec_StairWalk.j0 k a0 a1 a2 y101 true) = some r := by rw [if_neg (show ¬ (false = true) by decide)] at H; exact H
    clear H
    have H := H1
    clear H1
    have H' := Aside0.mk H
    clear H
    go_wp2_with (first | ((with_reducible refine gate_callee (f := 30) rfl ?_); refine gl_ (some 11) Try.func30 #[.int .i64 a0, .int .i64 0, .int .i64 199] ?_; (with_reducible refine (spec_l1In.calls a0 0 199 false _ A7.out).mono ?_); rintro e w' ⟨rfl, ⟨nd, rfl⟩⟩; refine ⟨_, rfl, ?_⟩))
    go_meet
    case rel => exact ⟨_, (true), ns_, H', ⟨by first | omega | exact Nat.le_refl _⟩, ⟨nr_ HO103.out⟩, ⟨ne_ HB.out⟩⟩
   subst c8
   rw [if_pos rfl] at H
   replace H := Option.bind_eq_some_iff.mp H
   obtain ⟨t105, A90, H⟩ := H
   try dsimp only at H
   have A9 := Aside0.mk A90
   clear A90
   by_cases c10 : t105 = true
   rotate_left
   ·replace c10 := Bool.eq_false_iff.mpr c10
    subst c10
    have H1 : (spec_StairWalk.j0 k a0 a1 a2 y101 true) = some r := by rw [if_neg (show ¬ (false = true) by decide)] at H; exact H
    clear H
    have H := H1
    clear H1
    have H' := Aside0.mk H
    clear H
    go_wp2_with (first | ((with_reducible refine gate_callee (f := 30) rfl ?_); refine gl_ (some 11) Try.func30 #[.int .i64 a0, .int .i64 0, .int .i64 199] ?_; (with_reducible refine (spec_l1In.calls a0 0 199 true _ A7.out).mono ?_); rintro e w' ⟨rfl, ⟨nd, rfl⟩⟩; refine ⟨_, rfl, ?_⟩) | (go_at_call 30; (with_reducible refine (spec_l1In.calls a1 0 199 false _ A9.out).mono ?_); rintro e w' ⟨rfl, ⟨nd, rfl⟩⟩))
    go_meet
    case rel => exact ⟨_, (true), ns_, H', ⟨by first | omega | exact Nat.le_refl _⟩, ⟨nr_ HO103.out⟩, ⟨ne_ HB.out⟩⟩
   subst c10
   rw [if_pos rfl] at H
   replace H := Option.bind_eq_some_iff.mp H
   obtain ⟨t106, A110, H⟩ := H
   replace H : (spec_StairWalk.j0 k a0 a1 a2 y101 (!t106)) = some r := H
   have A11 := Aside0.mk A110
   clear A110
   have H' := Aside0.mk H
   clear H
   go_wp2_with (first | ((with_reducible refine gate_callee (f := 30) rfl ?_); refine gl_ (some 11) Try.func30 #[.int .i64 a0, .int .i64 0, .int .i64 199] ?_; (with_reducible refine (spec_l1In.calls a0 0 199 true _ A7.out).mono ?_); rintro e w' ⟨rfl, ⟨nd, rfl⟩⟩; refine ⟨_, rfl, ?_⟩) | (go_at_call 30; (with_reducible refine (spec_l1In.calls a1 0 199 true _ A9.out).mono ?_); rintro e w' ⟨rfl, ⟨nd, rfl⟩⟩) | (go_at_call 30; (with_reducible refine (spec_l1In.calls a2 1 199 t106 _ A11.out).mono ?_); rintro e w' ⟨rfl, ⟨nd, rfl⟩⟩))
   go_meet
   case rel => exact ⟨_, (!t106), ns_, H', ⟨by first | omega | exact Nat.le_refl _⟩, ⟨nr_ HO103.out⟩, ⟨ne_ HB.out⟩⟩
  case rest =>
   clear HC4
   obtain ⟨kq, x22_3, rfl, HA, HJ3, HO_7, HB⟩ := hcut
   cases kq with
   | zero => exact absurd HA.out (by simp [spec_StairWalk.j0])
   | succ kj3 =>
    have H := HA.out
    clear HA
    simp only [spec_StairWalk.j0] at H
    by_cases c12 : x22_3 = true
    ·subst c12
     have H1 : (some ([] : List (S36))) = some r := by rw [if_pos rfl] at H; exact H
     clear H
     have H := H1
     clear H1
     obtain rfl := Option.some.inj H
     go_wp2
     go_ret
     exact ⟨_, nw_, by first | exact Kd.R_nil _ _ _ _ _ | exact Kd.N_nil _ _ _ _ _ | exact Kd.V_nil _ _ _ _ _ | exact Kd.Q_nil _ _ _ _ _ | exact Kd.S_nil _ _ _ _ _, ne_ HB.out⟩
    replace c12 := Bool.eq_false_iff.mpr c12
    subst c12
    have H1 : (spec_StairWalk.l0 kj3 a0 a2 y101 a1) = some r := by rw [if_neg (show ¬ (false = true) by decide)] at H; exact H
    clear H
    have H := H1
    clear H1
    have H' := Aside0.mk H
    clear H
    go_wp2
    go_loopg [7, 8] kj3 (fun kq v7 v8 w' => ∃ (x7_2 : List (S36)) (x8_2 : Int), v8 = .int .i64 x8_2 ∧ Aside0 (spec_StairWalk.l0 kq a0 a2 x7_2 x8_2 = some r) ∧ Aside0 (kq ≤ kj3) ∧ Aside0 (Kd.R k36 36 w' w.heap.size (fun _ => True) v7 x7_2) ∧ Aside0 (Below w.heap.size w w'))
    case atStart => exact ⟨(y101), (a1), ns_, H', ⟨Nat.le_refl _⟩, ⟨nr_ HO_7.out⟩, ⟨ne_ HB.out⟩⟩
    case round =>
     clear H'
     try clear c12
     obtain ⟨x7_2, x8_2, rfl, HA, HK2, HO_7, HB⟩ := hrel
     cases gk with
     | zero => exact absurd HA.out (by simp [spec_StairWalk.l0])
     | succ k2 =>
      have H := HA.out
      clear HA
      simp only [spec_StairWalk.l0] at H
      by_cases c13 : (wrap64 (x8_2 + a0)) ≤ 199
      rotate_left
      ·rw [if_neg c13] at H
       have c13b0 : decide ((wrap64 (x8_2 + a0)) ≤ 199) = false := decide_eq_false c13
       clear c13
       obtain rfl := Option.some.inj H
       go_wp2
       go_ret
       exact ⟨_, nw_, nr_ HO_7.out, ne_ HB.out⟩

      rw [if_pos c13] at H
      have c13b0 : decide ((wrap64 (x8_2 + a0)) ≤ 199) = true := decide_eq_true c13
      clear c13
      by_cases c14 : (x7_2.length : Int) < 12
      rotate_left
      ·rw [if_neg c14] at H
       have c14b0 : decide ((x7_2.length : Int) < 12) = false := decide_eq_false c14
       have c14b1 : decide (x7_2.length < 12) = false := decide_eq_false (by omega)
       clear c14
       obtain rfl := Option.some.inj H
       obtain ⟨Ao18, co18, eo18⟩ := Kd.R_slice HO_7.out
       subst eo18
       go_wp2
       go_ret
       exact ⟨_, nw_, nr_ HO_7.out, ne_ HB.out⟩
      rw [if_pos c14] at H
      have c14b0 : decide ((x7_2.length : Int) < 12) = true := decide_eq_true c14
      have c14b1 : decide (x7_2.length < 12) = true := decide_eq_true (by omega)
      clear c14
      by_cases c15 : x7_2.length < 8796093022208
      rotate_left
      ·rw [if_neg c15] at H
       exact absurd H (by simp)
      rw [if_pos c15] at H
      have LMc15 := Aside0.mk c15
      clear c15
      obtain ⟨y107, hy107⟩ : ∃ y_ : List (S36), y_ = (x7_2 ++ [(⟨x8_2, wrap64 (x8_2 + a0)⟩ : S36)]) := ⟨_, rfl⟩
      replace H : (spec_StairWalk.l0 k2 a0 a2 y107 (wrap64 (x8_2 + a2))) = some r := by first | (rw [hy107]; with_reducible exact H) | (have H2_ := (Option.bind_some _ _).symm.trans H; rw [hy107]; with_reducible exact H2_) | (have H2_ := (Option.bind_some _ _).symm.trans H; with_reducible exact H2_) | with_reducible exact H | (rw [hy107]; exact H) | exact H
      have Ny107 := Aside0.mk hy107
      clear hy107
      have H' := Aside0.mk H
      clear H
      obtain ⟨Ao16, co16, eo16⟩ := Kd.R_slice HO_7.out
      subst eo16
      go_wp2_with (first | ((with_reducible refine gate_builtin (b := .append) (xs := #[.tmp 36, .tmp 42]) rfl ?_); (try (refine gate_guard (by rfl) ?_; dsimp only)); at_builtin; refine Kd.R_append k36 (w0 := w) w.heap.size rfl (.tmp 36) (.tmp 42) 22 36 (.agg #[(.int .i64 0), (.int .i64 0)]) 16 rfl Try.underlying22 info36 rfl (by decide) (by omega) (.slice Ao16 x7_2.length co16) x7_2 (⟨x8_2, wrap64 (x8_2 + a0)⟩ : S36) [.int .i64 x8_2, .int .i64 (wrap64 (x8_2 + a0))] (fun _ => True) (fun _ => False) rfl rfl ?aP (fun _ hk => hk.elim) ?aF ?aO ?aB ?aS ?aL ?_; (case aP => exact k36_mkM _ _ _ (⟨x8_2, wrap64 (x8_2 + a0)⟩ : S36)); (case aB => exact (ne_ HB.out)); (case aF => exact (fun _ _ => trivial)); (case aO => exact (nr_ HO_7.out)); (case aS => exact (below_size (ne_ HB.out))); (case aL => have := LMc15.out; omega); intro v108 w17 ho hb hg hat; rw [← Ny107.out] at ho; have HO109 := Aside0.mk (ho); replace HB := Aside0.mk (hb); clear HO_7; clear ho hb hg hat))
      go_roundg k2
      case measure => have := HJ3.out; have := HK2.out; omega
      case rel => exact ⟨(y107), (wrap64 (x8_2 + a2)), ns_, H', ⟨by have := HJ3.out; have := HK2.out; omega⟩, ⟨nr_ HO109.out⟩, ⟨ne_ HB.out⟩⟩
end Go.Proofs.Ytfpfaaibgaejjaa.Print
