-- Made by this session's own program (wip/patch_print.py, over the kit's print). Lean checks it.
import Derived.Test.YtfpfaaibgaejjaaPrint0
import Derived.Test.YtfpfaaibgaejjaaPrintB
namespace Go.Proofs.Ytfpfaaibgaejjaa.Print
open Go.RowKit Go.Proofs.YtfpfaaibgaejjaaW.PrintWords Go.Proofs.YtfpfaaibgaejjaaW.PrintLast Go.Proofs.YtfpfaaibgaejjaaW.PrintMore Go.Proofs.YtfpfaaibgaejjaaX
attribute [local go_sem] max2_int min2_int max_two min_two max_three min_three max_four min_four   -- for this text's walks alone
set_option linter.unusedVariables false
set_option linter.unusedSimpArgs false

/-! ### impl_StairWalk: function 12 -/
mutual
def impl_StairWalk.j0 : Nat → Int → Int → Int → Bool → Option ((List (S36)))
  | 0, _, _, _, _ => none
  | k + 1, x0, x1, x2, x21 => if x21 = true then (some ([] : List (S36))) else (impl_StairWalk.l0 k x0 x2 (([] : List (S36))) x1)
def impl_StairWalk.l0 : Nat → Int → Int → List (S36) → Int → Option ((List (S36)))
  | 0, _, _, _, _ => none
  | k + 1, x0, x2, x7, x8 => if (wrap64 (x8 + x0)) ≤ 199 then (if (x7.length : Int) < 12 then (if x7.length < 8796093022208 then (impl_StairWalk.l0 k x0 x2 (x7 ++ [(⟨x8, wrap64 (x8 + x0)⟩ : S36)]) (wrap64 (x8 + x2))) else (none)) else (some (x7))) else (some (x7))
end
def impl_StairWalk.f (k : Nat) (a0 : Int) (a1 : Int) (a2 : Int) : Option ((List (S36))) := (impl_timeOk.f a0).bind fun t111 => (if t111 = true then ((impl_timeOk.f a1).bind fun t112 => (if t112 = true then ((impl_within.f a2 1 199).bind fun t113 => (impl_StairWalk.j0 k a0 a1 a2 (!t113))) else (impl_StairWalk.j0 k a0 a1 a2 true))) else (impl_StairWalk.j0 k a0 a1 a2 true))
theorem impl_StairWalk.mono_l : ∀ k, (∀ y0 y1 y2 y3, LeO (impl_StairWalk.j0 k y0 y1 y2 y3) (impl_StairWalk.j0 (k + 1) y0 y1 y2 y3)) ∧ (∀ y0 y1 y2 y3, LeO (impl_StairWalk.l0 k y0 y1 y2 y3) (impl_StairWalk.l0 (k + 1) y0 y1 y2 y3))
  | 0 => ⟨fun _ _ _ _ r h => by simp [impl_StairWalk.j0] at h, fun _ _ _ _ r h => by simp [impl_StairWalk.l0] at h⟩
  | k + 1 => by
    obtain ⟨ih0, ih1⟩ := impl_StairWalk.mono_l k
    refine ⟨?_, ?_⟩
    · intro y0 y1 y2 y3
      unfold impl_StairWalk.j0
      repeat' first | (with_reducible first | exact ih0 _ _ _ _ | exact ih1 _ _ _ _ | exact LeO.refl _ | exact LeO.none _ | refine LeO.ite ?_ ?_ | refine LeO.bind ?_ (fun _ => ?_)) | exact ih0 _ _ _ _ | exact ih1 _ _ _ _ | exact LeO.none _ | refine LeO.ite ?_ ?_ | refine LeO.bind ?_ (fun _ => ?_)
    · intro y0 y1 y2 y3
      unfold impl_StairWalk.l0
      repeat' first | (with_reducible first | exact ih0 _ _ _ _ | exact ih1 _ _ _ _ | exact LeO.refl _ | exact LeO.none _ | refine LeO.ite ?_ ?_ | refine LeO.bind ?_ (fun _ => ?_)) | exact ih0 _ _ _ _ | exact ih1 _ _ _ _ | exact LeO.none _ | refine LeO.ite ?_ ?_ | refine LeO.bind ?_ (fun _ => ?_)
theorem impl_StairWalk.mono : ∀ a0 a1 a2 k, LeO (impl_StairWalk.f k a0 a1 a2) (impl_StairWalk.f (k + 1) a0 a1 a2) := by
  intro a0 a1 a2 k
  obtain ⟨ih0, ih1⟩ := impl_StairWalk.mono_l k
  unfold impl_StairWalk.f
  repeat' first | (with_reducible first | exact ih0 _ _ _ _ | exact ih1 _ _ _ _ | exact LeO.refl _ | exact LeO.none _ | refine LeO.ite ?_ ?_ | refine LeO.bind ?_ (fun _ => ?_)) | exact ih0 _ _ _ _ | exact ih1 _ _ _ _ | exact LeO.none _ | refine LeO.ite ?_ ?_ | refine LeO.bind ?_ (fun _ => ?_)
set_option maxHeartbeats 200000000 in
set_option maxRecDepth 100000 in
theorem impl_StairWalk.calls (k : Nat) (a0 : Int) (a1 : Int) (a2 : Int) (r : List (S36)) (w : World) (h : impl_StairWalk.f k a0 a1 a2 = some r) :
    Calls Try.prog 12 #[.int .i64 a0, .int .i64 a1, .int .i64 a2] w fun e w' => ∃ v0_ : Value, e = .returned (v0_) ∧ Kd.R k36 36 w' w.heap.size (fun _ => True) v0_ r ∧ Below w.heap.size w w' := by
  have hu36 := Try.underlying36
  have HB := Aside0.mk (Below.refl w.heap.size w)
  have H : ((impl_timeOk.f a0).bind fun t111 => (if t111 = true then ((impl_timeOk.f a1).bind fun t112 => (if t112 = true then ((impl_within.f a2 1 199).bind fun t113 => (impl_StairWalk.j0 k a0 a1 a2 (!t113))) else (impl_StairWalk.j0 k a0 a1 a2 true))) else (impl_StairWalk.j0 k a0 a1 a2 true))) = some r := h
  clear h
  have HC4 := Aside0.mk H
  clear H
  go_enter Try.func12, Try.ntmps12
  go_upto_region 1 with (fail)
  go_cut [21] (fun v21 wc => ∃ (kq : Nat) (x21_3 : Bool), v21 = .bool x21_3 ∧ Aside0 (impl_StairWalk.j0 kq a0 a1 a2 x21_3 = some r) ∧ Aside0 (kq ≤ k) ∧ Aside0 (Below w.heap.size w wc))
  case first =>
   have H := HC4.out
   clear HC4
   replace H := Option.bind_eq_some_iff.mp H
   obtain ⟨t111, A50, H⟩ := H
   try dsimp only at H
   have A5 := Aside0.mk A50
   clear A50
   by_cases c6 : t111 = true
   rotate_left
   ·replace c6 := Bool.eq_false_iff.mpr c6
    subst c6
    have H1 : (impl_StairWalk.j0 k a0 a1 a2 true) = some r := by rw [if_neg (show ¬ (false = true) by decide)] at H; exact H
    clear H
    have H := H1
    clear H1
    have H' := Aside0.mk H
    clear H
    go_wp2_with (first | ((with_reducible refine gate_callee (f := 31) rfl ?_); refine gl_ (some 10) Try.func31 #[.int .i64 a0] ?_; (with_reducible refine (impl_timeOk.calls a0 false _ A5.out).mono ?_); rintro e w' ⟨rfl, ⟨nd, rfl⟩⟩; refine ⟨_, rfl, ?_⟩))
    go_meet
    case rel => exact ⟨_, (true), ns_, H', ⟨by first | omega | exact Nat.le_refl _⟩, ⟨ne_ HB.out⟩⟩
   subst c6
   rw [if_pos rfl] at H
   replace H := Option.bind_eq_some_iff.mp H
   obtain ⟨t112, A70, H⟩ := H
   try dsimp only at H
   have A7 := Aside0.mk A70
   clear A70
   by_cases c8 : t112 = true
   rotate_left
   ·replace c8 := Bool.eq_false_iff.mpr c8
    subst c8
    have H1 : (impl_StairWalk.j0 k a0 a1 a2 true) = some r := by rw [if_neg (show ¬ (false = true) by decide)] at H; exact H
    clear H
    have H := H1
    clear H1
    have H' := Aside0.mk H
    clear H
    go_wp2_with (first | ((with_reducible refine gate_callee (f := 31) rfl ?_); refine gl_ (some 10) Try.func31 #[.int .i64 a0] ?_; (with_reducible refine (impl_timeOk.calls a0 true _ A5.out).mono ?_); rintro e w' ⟨rfl, ⟨nd, rfl⟩⟩; refine ⟨_, rfl, ?_⟩) | (go_at_call 31; (with_reducible refine (impl_timeOk.calls a1 false _ A7.out).mono ?_); rintro e w' ⟨rfl, ⟨nd, rfl⟩⟩))
    go_meet
    case rel => exact ⟨_, (true), ns_, H', ⟨by first | omega | exact Nat.le_refl _⟩, ⟨ne_ HB.out⟩⟩
   subst c8
   rw [if_pos rfl] at H
   replace H := Option.bind_eq_some_iff.mp H
   obtain ⟨t113, A90, H⟩ := H
   replace H : (impl_StairWalk.j0 k a0 a1 a2 (!t113)) = some r := H
   have A9 := Aside0.mk A90
   clear A90
   have H' := Aside0.mk H
   clear H
   go_wp2_with (first | ((with_reducible refine gate_callee (f := 31) rfl ?_); refine gl_ (some 10) Try.func31 #[.int .i64 a0] ?_; (with_reducible refine (impl_timeOk.calls a0 true _ A5.out).mono ?_); rintro e w' ⟨rfl, ⟨nd, rfl⟩⟩; refine ⟨_, rfl, ?_⟩) | (go_at_call 31; (with_reducible refine (impl_timeOk.calls a1 true _ A7.out).mono ?_); rintro e w' ⟨rfl, ⟨nd, rfl⟩⟩) | (go_at_call 32; (with_reducible refine (impl_within.calls a2 1 199 t113 _ A9.out).mono ?_); rintro e w' ⟨rfl, ⟨nd, rfl⟩⟩))
   go_meet
   case rel => exact ⟨_, (!t113), ns_, H', ⟨by first | omega | exact Nat.le_refl _⟩, ⟨ne_ HB.out⟩⟩
  case rest =>
   clear HC4
   obtain ⟨kq, x21_3, rfl, HA, HJ3, HB⟩ := hcut
   cases kq with
   | zero => exact absurd HA.out (by simp [impl_StairWalk.j0])
   | succ kj3 =>
    have H := HA.out
    clear HA
    simp only [impl_StairWalk.j0] at H
    by_cases c10 : x21_3 = true
    ·subst c10
     have H1 : (some ([] : List (S36))) = some r := by rw [if_pos rfl] at H; exact H
     clear H
     have H := H1
     clear H1
     obtain rfl := Option.some.inj H
     go_wp2
     go_ret
     exact ⟨_, nw_, by first | exact Kd.R_nil _ _ _ _ _ | exact Kd.N_nil _ _ _ _ _ | exact Kd.V_nil _ _ _ _ _ | exact Kd.Q_nil _ _ _ _ _ | exact Kd.S_nil _ _ _ _ _, ne_ HB.out⟩
    replace c10 := Bool.eq_false_iff.mpr c10
    subst c10
    have H1 : (impl_StairWalk.l0 kj3 a0 a2 (([] : List (S36))) a1) = some r := by rw [if_neg (show ¬ (false = true) by decide)] at H; exact H
    clear H
    have H := H1
    clear H1
    obtain ⟨y114, hy114⟩ : ∃ y_ : List (S36), y_ = (([] : List (S36))) := ⟨_, rfl⟩
    replace H : (impl_StairWalk.l0 kj3 a0 a2 y114 a1) = some r := by first | (rw [hy114]; with_reducible exact H) | (have H2_ := (Option.bind_some _ _).symm.trans H; rw [hy114]; with_reducible exact H2_) | (have H2_ := (Option.bind_some _ _).symm.trans H; with_reducible exact H2_) | with_reducible exact H | (rw [hy114]; exact H) | exact H
    have Ny114 := Aside0.mk hy114
    clear hy114
    have H' := Aside0.mk H
    clear H
    go_wp2_with (first | ((with_reducible refine gate_dst (N := 22) rfl ?_); (try (refine gate_guard (by rfl) ?_; dsimp only)); refine Go.Proofs.YtfpfaaibgaejjaaX.Kd.R_make0 k36 _ 36 rfl (N := 22) rfl 22 _ _ rfl 12 rfl rfl Try.underlying22 (.agg #[(.int .i64 0), (.int .i64 0)]) 16 info36 (by omega) (ok := fun _ => True) trivial (by omega) (by omega) (Below.refl _ _) (Nat.le_refl _) ?_; intro v115 w11 ho12 hb hg_ hnew_; clear hg_ hnew_; (first | rw [← Ny114.out] at ho12 | (simp only [Int.reduceToNat] at ho12; rw [← Ny114.out] at ho12)); have HO116 := Aside0.mk (Kd.R_lower ho12 (below_size (ne_ HB.out))); replace HB := kB_ HB hb; clear hb ho12))
    go_loopg [7, 8] kj3 (fun kq v7 v8 w' => ∃ (x7_2 : List (S36)) (x8_2 : Int), v8 = .int .i64 x8_2 ∧ Aside0 (impl_StairWalk.l0 kq a0 a2 x7_2 x8_2 = some r) ∧ Aside0 (kq ≤ kj3) ∧ Aside0 (Kd.R k36 36 w' w.heap.size (fun _ => True) v7 x7_2) ∧ Aside0 (Below w.heap.size w w'))
    case atStart => exact ⟨(y114), (a1), ns_, H', ⟨Nat.le_refl _⟩, ⟨nr_ HO116.out⟩, ⟨ne_ HB.out⟩⟩
    case round =>
     clear H'
     try clear c10
     obtain ⟨x7_2, x8_2, rfl, HA, HK2, HO_7, HB⟩ := hrel
     cases gk with
     | zero => exact absurd HA.out (by simp [impl_StairWalk.l0])
     | succ k2 =>
      have H := HA.out
      clear HA
      simp only [impl_StairWalk.l0] at H
      by_cases c13 : (wrap64 (x8_2 + a0)) ≤ 199
      rotate_left
      ·rw [if_neg c13] at H
       have c13b0 : decide ((wrap64 (x8_2 + a0)) ≤ 199) = false := decide_eq_false c13
       clear c13
       obtain ⟨y123, hy123⟩ : ∃ y_ : List (S36), y_ = (x7_2) := ⟨_, rfl⟩
       replace H : (some y123) = some r := by first | (rw [hy123]; with_reducible exact H) | (have H2_ := (Option.bind_some _ _).symm.trans H; rw [hy123]; with_reducible exact H2_) | (have H2_ := (Option.bind_some _ _).symm.trans H; with_reducible exact H2_) | with_reducible exact H | (rw [hy123]; exact H) | exact H
       have Ny123 := Aside0.mk hy123
       clear hy123
       obtain rfl := Option.some.inj H
       obtain ⟨Ao20, co20, eo20⟩ := Kd.R_slice HO_7.out
       subst eo20
       obtain ⟨i021, hi021, _, hsz21, _⟩ := info_parts info36
       have hy21 : y123.length = x7_2.length := (by rw [Ny123.out])
       have hcut21 : ∀ W : World, (Instr.slice 22 (.slice Ao20 x7_2.length co20) none (some (.int .i64 (x7_2.length : Int))) (some (.int .i64 (x7_2.length : Int)))).run Try.prog W = .ok (.slice Ao20 y123.length y123.length) W := (by rw [hy21]; exact Go.Proofs.YtfpfaaibgaejjaaX.clip_run (P := Try.prog) 22 36 Try.underlying22 hi021 Ao20 x7_2.length co20 (Kd.R_reads' HO_7.out).2.1)
       have hr21 := Go.Proofs.YtfpfaaibgaejjaaX.Kd.R_clip HO_7.out rfl
       rw [show x7_2 = y123 from Ny123.out.symm] at hr21
       clear hy21 hi021 hsz21 HO_7
       have HO125 := Aside0.mk hr21
       clear hr21
       go_wp2
       go_ret
       exact ⟨_, nw_, nr_ HO125.out, ne_ HB.out⟩

      rw [if_pos c13] at H
      have c13b0 : decide ((wrap64 (x8_2 + a0)) ≤ 199) = true := decide_eq_true c13
      clear c13
      by_cases c14 : (x7_2.length : Int) < 12
      rotate_left
      ·rw [if_neg c14] at H
       have c14b0 : decide ((x7_2.length : Int) < 12) = false := decide_eq_false c14
       have c14b1 : decide (x7_2.length < 12) = false := decide_eq_false (by omega)
       clear c14
       obtain ⟨y120, hy120⟩ : ∃ y_ : List (S36), y_ = (x7_2) := ⟨_, rfl⟩
       replace H : (some y120) = some r := by first | (rw [hy120]; with_reducible exact H) | (have H2_ := (Option.bind_some _ _).symm.trans H; rw [hy120]; with_reducible exact H2_) | (have H2_ := (Option.bind_some _ _).symm.trans H; with_reducible exact H2_) | with_reducible exact H | (rw [hy120]; exact H) | exact H
       have Ny120 := Aside0.mk hy120
       clear hy120
       obtain rfl := Option.some.inj H
       obtain ⟨Ao18, co18, eo18⟩ := Kd.R_slice HO_7.out
       subst eo18
       obtain ⟨i019, hi019, _, hsz19, _⟩ := info_parts info36
       have hy19 : y120.length = x7_2.length := (by rw [Ny120.out])
       have hcut19 : ∀ W : World, (Instr.slice 22 (.slice Ao18 x7_2.length co18) none (some (.int .i64 (x7_2.length : Int))) (some (.int .i64 (x7_2.length : Int)))).run Try.prog W = .ok (.slice Ao18 y120.length y120.length) W := (by rw [hy19]; exact Go.Proofs.YtfpfaaibgaejjaaX.clip_run (P := Try.prog) 22 36 Try.underlying22 hi019 Ao18 x7_2.length co18 (Kd.R_reads' HO_7.out).2.1)
       have hr19 := Go.Proofs.YtfpfaaibgaejjaaX.Kd.R_clip HO_7.out rfl
       rw [show x7_2 = y120 from Ny120.out.symm] at hr19
       clear hy19 hi019 hsz19 HO_7
       have HO122 := Aside0.mk hr19
       clear hr19
       go_wp2
       go_ret
       exact ⟨_, nw_, nr_ HO122.out, ne_ HB.out⟩
      rw [if_pos c14] at H
      have c14b0 : decide ((x7_2.length : Int) < 12) = true := decide_eq_true c14
      have c14b1 : decide (x7_2.length < 12) = true := decide_eq_true (by omega)
      clear c14
      by_cases c15 : x7_2.length < 8796093022208
      rotate_left
      ·rw [if_neg c15] at H
       exact absurd H (by simp)
      rw [if_pos c15] at H
      have LMc15 := Aside0.mk c15
      clear c15
      obtain ⟨y117, hy117⟩ : ∃ y_ : List (S36), y_ = (x7_2 ++ [(⟨x8_2, wrap64 (x8_2 + a0)⟩ : S36)]) := ⟨_, rfl⟩
      replace H : (impl_StairWalk.l0 k2 a0 a2 y117 (wrap64 (x8_2 + a2))) = some r := by first | (rw [hy117]; with_reducible exact H) | (have H2_ := (Option.bind_some _ _).symm.trans H; rw [hy117]; with_reducible exact H2_) | (have H2_ := (Option.bind_some _ _).symm.trans H; with_reducible exact H2_) | with_reducible exact H | (rw [hy117]; exact H) | exact H
      have Ny117 := Aside0.mk hy117
      clear hy117
      have H' := Aside0.mk H
      clear H
      obtain ⟨Ao16, co16, eo16⟩ := Kd.R_slice HO_7.out
      subst eo16
      go_wp2_with (first | ((with_reducible refine gate_builtin (b := .append) (xs := #[.tmp 36, .tmp 42]) rfl ?_); (try (refine gate_guard (by rfl) ?_; dsimp only)); at_builtin; refine Kd.R_append k36 (w0 := w) w.heap.size rfl (.tmp 36) (.tmp 42) 22 36 (.agg #[(.int .i64 0), (.int .i64 0)]) 16 rfl Try.underlying22 info36 rfl (by decide) (by omega) (.slice Ao16 x7_2.length co16) x7_2 (⟨x8_2, wrap64 (x8_2 + a0)⟩ : S36) [.int .i64 x8_2, .int .i64 (wrap64 (x8_2 + a0))] (fun _ => True) (fun _ => False) rfl rfl ?aP (fun _ hk => hk.elim) ?aF ?aO ?aB ?aS ?aL ?_; (case aP => exact k36_mkM _ _ _ (⟨x8_2, wrap64 (x8_2 + a0)⟩ : S36)); (case aB => exact (ne_ HB.out)); (case aF => exact (fun _ _ => trivial)); (case aO => exact (nr_ HO_7.out)); (case aS => exact (below_size (ne_ HB.out))); (case aL => have := LMc15.out; omega); intro v118 w17 ho hb hg hat; rw [← Ny117.out] at ho; have HO119 := Aside0.mk (ho); replace HB := Aside0.mk (hb); clear HO_7; clear ho hb hg hat))
      go_roundg k2
      case measure => have := HJ3.out; have := HK2.out; omega
      case rel => exact ⟨(y117), (wrap64 (x8_2 + a2)), ns_, H', ⟨by have := HJ3.out; have := HK2.out; omega⟩, ⟨nr_ HO119.out⟩, ⟨ne_ HB.out⟩⟩
end Go.Proofs.Ytfpfaaibgaejjaa.Print
