-- Made by this session's own program (wip/patch_print.py, over the kit's print). Lean checks it.
import Derived.Test.YtnpjijakebdljaaPrint0
import Derived.Test.YtnpjijakebdljaaPrintB
namespace Go.Proofs.Ytnpjijakebdljaa.Print
open Go.RowKit Go.Proofs.YtnpjijakebdljaaW.PrintWords Go.Proofs.YtnpjijakebdljaaW.PrintLast Go.Proofs.YtnpjijakebdljaaW.PrintMore
attribute [local go_sem] max2_int min2_int max_two min_two max_three min_three max_four min_four   -- for this text's walks alone
set_option linter.unusedVariables false
set_option linter.unusedSimpArgs false

/-! ### impl_StairWalk: function 24 -/
mutual
def impl_StairWalk.j0 : Nat → Int → Int → Int → Bool → Option ((List (S37)))
  | 0, _, _, _, _ => none
  | k + 1, x0, x1, x2, x21 => if x21 = true then (some ([] : List (S37))) else (impl_StairWalk.l0 k x0 x2 (([] : List (S37))) x1)
def impl_StairWalk.l0 : Nat → Int → Int → List (S37) → Int → Option ((List (S37)))
  | 0, _, _, _, _ => none
  | k + 1, x0, x2, x7, x8 => if (wrap64 (x8 + x0)) ≤ 199 then (if (x7.length : Int) < 12 then (if x7.length < 8796093022208 then (impl_StairWalk.l0 k x0 x2 (x7 ++ [(⟨x8, wrap64 (x8 + x0)⟩ : S37)]) (wrap64 (x8 + x2))) else (none)) else (some (x7))) else (some (x7))
end
def impl_StairWalk.f (k : Nat) (a0 : Int) (a1 : Int) (a2 : Int) : Option ((List (S37))) := (impl_timeOk.f a0).bind fun t157 => (if t157 = true then ((impl_timeOk.f a1).bind fun t158 => (if t158 = true then ((impl_within.f a2 1 199).bind fun t159 => (impl_StairWalk.j0 k a0 a1 a2 (!t159))) else (impl_StairWalk.j0 k a0 a1 a2 true))) else (impl_StairWalk.j0 k a0 a1 a2 true))
theorem impl_StairWalk.mono_l : ∀ k, (∀ y0 y1 y2 y3, LeO (impl_StairWalk.j0 k y0 y1 y2 y3) (impl_StairWalk.j0 (k + 1) y0 y1 y2 y3)) ∧ (∀ y0 y1 y2 y3, LeO (impl_StairWalk.l0 k y0 y1 y2 y3) (impl_StairWalk.l0 (k + 1) y0 y1 y2 y3))
  | 0 => ⟨fun _ _ _ _ r h => by simp [impl_StairWalk.j0] at h, fun _ _ _ _ r h => by simp [impl_StairWalk.l0] at h⟩
  | k + 1 => by
    obtain ⟨ih0, ih1⟩ := impl_StairWalk.mono_l k
    refine ⟨?_, ?_⟩
    · intro y0 y1 y2 y3
      unfold impl_StairWalk.j0
      repeat' first
      | (with_reducible exact ih0 _ _ _ _)
      | (with_reducible exact ih1 _ _ _ _)
      | (with_reducible exact LeO.refl _)
      | (with_reducible exact LeO.none _)
      | (with_reducible refine LeO.ite ?_ ?_)
      | (with_reducible refine LeO.bind ?_ (fun _ => ?_))
      | exact ih0 _ _ _ _
      | exact ih1 _ _ _ _
      | exact LeO.none _
      | refine LeO.ite ?_ ?_
      | refine LeO.bind ?_ (fun _ => ?_)
    · intro y0 y1 y2 y3
      unfold impl_StairWalk.l0
      repeat' first
      | (with_reducible exact ih0 _ _ _ _)
      | (with_reducible exact ih1 _ _ _ _)
      | (with_reducible exact LeO.refl _)
      | (with_reducible exact LeO.none _)
      | (with_reducible refine LeO.ite ?_ ?_)
      | (with_reducible refine LeO.bind ?_ (fun _ => ?_))
      | exact ih0 _ _ _ _
      | exact ih1 _ _ _ _
      | exact LeO.none _
      | refine LeO.ite ?_ ?_
      | refine LeO.bind ?_ (fun _ => ?_)
theorem impl_StairWalk.mono : ∀ a0 a1 a2 k, LeO (impl_StairWalk.f k a0 a1 a2) (impl_StairWalk.f (k + 1) a0 a1 a2) := by
  intro a0 a1 a2 k
  obtain ⟨ih0, ih1⟩ := impl_StairWalk.mono_l k
  unfold impl_StairWalk.f
  repeat' first
      | (with_reducible exact ih0 _ _ _ _)
      | (with_reducible exact ih1 _ _ _ _)
      | (with_reducible exact LeO.refl _)
      | (with_reducible exact LeO.none _)
      | (with_reducible refine LeO.ite ?_ ?_)
      | (with_reducible refine LeO.bind ?_ (fun _ => ?_))
      | exact ih0 _ _ _ _
      | exact ih1 _ _ _ _
      | exact LeO.none _
      | refine LeO.ite ?_ ?_
      | refine LeO.bind ?_ (fun _ => ?_)
set_option maxHeartbeats 8000000 in
set_option maxRecDepth 100000 in
theorem impl_StairWalk.calls (k : Nat) (a0 : Int) (a1 : Int) (a2 : Int) (r : List (S37)) (w : World) (h : impl_StairWalk.f k a0 a1 a2 = some r) :
    Calls Try.prog 24 #[.int .i64 a0, .int .i64 a1, .int .i64 a2] w fun e w' => ∃ v0_ : Value, e = .returned (v0_) ∧ Kd.V k37 37 w' w.heap.size (fun k_ => (w.heap.size ≤ k_)) v0_ r ∧ Below w.heap.size w w' := by
  have hu37 := Try.underlying37
  have HB := Aside0.mk (Below.refl w.heap.size w)
  have H : ((impl_timeOk.f a0).bind fun t157 => (if t157 = true then ((impl_timeOk.f a1).bind fun t158 => (if t158 = true then ((impl_within.f a2 1 199).bind fun t159 => (impl_StairWalk.j0 k a0 a1 a2 (!t159))) else (impl_StairWalk.j0 k a0 a1 a2 true))) else (impl_StairWalk.j0 k a0 a1 a2 true))) = some r := h
  clear h
  have HC4 := Aside0.mk H
  clear H
  go_enter Try.func24, Try.ntmps24
  go_upto_region 1 with (fail)
  go_cut [21] (fun v21 wc => ∃ (kq : Nat) (x21_3 : Bool), v21 = .bool x21_3 ∧ Aside0 (impl_StairWalk.j0 kq a0 a1 a2 x21_3 = some r) ∧ Aside0 (kq ≤ k) ∧ Aside0 (Below w.heap.size w wc))
  case first =>
   have H := HC4.out
   clear HC4
   replace H := Option.bind_eq_some_iff.mp H
   obtain ⟨t157, A50, H⟩ := H
   replace H : (if t157 = true then ((impl_timeOk.f a1).bind fun t158 => (if t158 = true then ((impl_within.f a2 1 199).bind fun t159 => (impl_StairWalk.j0 k a0 a1 a2 (!t159))) else (impl_StairWalk.j0 k a0 a1 a2 true))) else (impl_StairWalk.j0 k a0 a1 a2 true)) = some r := H
   have A5 := Aside0.mk A50
   clear A50
   by_cases c6 : t157 = true
   ·subst c6
    have H1 : ((impl_timeOk.f a1).bind fun t158 => (if t158 = true then ((impl_within.f a2 1 199).bind fun t159 => (impl_StairWalk.j0 k a0 a1 a2 (!t159))) else (impl_StairWalk.j0 k a0 a1 a2 true))) = some r := by rw [if_pos rfl] at H; exact H
    clear H
    have H := H1
    clear H1
    replace H := Option.bind_eq_some_iff.mp H
    obtain ⟨t158, A70, H⟩ := H
    replace H : (if t158 = true then ((impl_within.f a2 1 199).bind fun t159 => (impl_StairWalk.j0 k a0 a1 a2 (!t159))) else (impl_StairWalk.j0 k a0 a1 a2 true)) = some r := H
    have A7 := Aside0.mk A70
    clear A70
    by_cases c8 : t158 = true
    ·subst c8
     have H1 : ((impl_within.f a2 1 199).bind fun t159 => (impl_StairWalk.j0 k a0 a1 a2 (!t159))) = some r := by rw [if_pos rfl] at H; exact H
     clear H
     have H := H1
     clear H1
     replace H := Option.bind_eq_some_iff.mp H
     obtain ⟨t159, A90, H⟩ := H
     replace H : (impl_StairWalk.j0 k a0 a1 a2 (!t159)) = some r := H
     have A9 := Aside0.mk A90
     clear A90
     have H' := Aside0.mk H
     clear H
     go_wp2_with (first | ((with_reducible refine gate_callee (f := 49) rfl ?_); refine goesL_ (some 10) rfl rfl Try.func49 (by kernel_rfl) rfl #[.int .i64 a0] rfl (by (try simp only [List.map_toArray, List.map_cons, List.map_nil]); first | done | rfl | (simp only [List.length_drop, List.length_take]; rfl)) ?_; (with_reducible refine (impl_timeOk.calls a0 true _ A5.out).mono ?_); rintro e w' ⟨rfl, ⟨nd, rfl⟩⟩; refine ⟨_, rfl, ?_⟩) | (go_at_call 49; (with_reducible refine (impl_timeOk.calls a1 true _ A7.out).mono ?_); rintro e w' ⟨rfl, ⟨nd, rfl⟩⟩) | (go_at_call 50; (with_reducible refine (impl_within.calls a2 1 199 t159 _ A9.out).mono ?_); rintro e w' ⟨rfl, ⟨nd, rfl⟩⟩))
     go_meet
     case rel => exact ⟨_, (!t159), (by first | rfl | (simp; done) | (simp [*]; done) | (simp [*]; exact Option.some.inj (Eq.trans (Eq.symm (Aside0.out (by assumption))) (Aside0.out (by assumption))))), H', ⟨by first | omega | exact Nat.le_refl _⟩, ⟨by repeat (first | (with_reducible first | exact HB.out | apply below_alloc | apply pw_below_drewN | apply below_drew1) | exact HB.out)⟩⟩
    ·replace c8 := Bool.eq_false_iff.mpr c8
     subst c8
     have H1 : (impl_StairWalk.j0 k a0 a1 a2 true) = some r := by rw [if_neg (show ¬ (false = true) by decide)] at H; exact H
     clear H
     have H := H1
     clear H1
     have H' := Aside0.mk H
     clear H
     go_wp2_with (first | ((with_reducible refine gate_callee (f := 49) rfl ?_); refine goesL_ (some 10) rfl rfl Try.func49 (by kernel_rfl) rfl #[.int .i64 a0] rfl (by (try simp only [List.map_toArray, List.map_cons, List.map_nil]); first | done | rfl | (simp only [List.length_drop, List.length_take]; rfl)) ?_; (with_reducible refine (impl_timeOk.calls a0 true _ A5.out).mono ?_); rintro e w' ⟨rfl, ⟨nd, rfl⟩⟩; refine ⟨_, rfl, ?_⟩) | (go_at_call 49; (with_reducible refine (impl_timeOk.calls a1 false _ A7.out).mono ?_); rintro e w' ⟨rfl, ⟨nd, rfl⟩⟩))
     go_meet
     case rel => exact ⟨_, (true), (by first | rfl | (simp; done) | (simp [*]; done) | (simp [*]; exact Option.some.inj (Eq.trans (Eq.symm (Aside0.out (by assumption))) (Aside0.out (by assumption))))), H', ⟨by first | omega | exact Nat.le_refl _⟩, ⟨by repeat (first | (with_reducible first | exact HB.out | apply below_alloc | apply pw_below_drewN | apply below_drew1) | exact HB.out)⟩⟩
   ·replace c6 := Bool.eq_false_iff.mpr c6
    subst c6
    have H1 : (impl_StairWalk.j0 k a0 a1 a2 true) = some r := by rw [if_neg (show ¬ (false = true) by decide)] at H; exact H
    clear H
    have H := H1
    clear H1
    have H' := Aside0.mk H
    clear H
    go_wp2_with (first | ((with_reducible refine gate_callee (f := 49) rfl ?_); refine goesL_ (some 10) rfl rfl Try.func49 (by kernel_rfl) rfl #[.int .i64 a0] rfl (by (try simp only [List.map_toArray, List.map_cons, List.map_nil]); first | done | rfl | (simp only [List.length_drop, List.length_take]; rfl)) ?_; (with_reducible refine (impl_timeOk.calls a0 false _ A5.out).mono ?_); rintro e w' ⟨rfl, ⟨nd, rfl⟩⟩; refine ⟨_, rfl, ?_⟩))
    go_meet
    case rel => exact ⟨_, (true), (by first | rfl | (simp; done) | (simp [*]; done) | (simp [*]; exact Option.some.inj (Eq.trans (Eq.symm (Aside0.out (by assumption))) (Aside0.out (by assumption))))), H', ⟨by first | omega | exact Nat.le_refl _⟩, ⟨by repeat (first | (with_reducible first | exact HB.out | apply below_alloc | apply pw_below_drewN | apply below_drew1) | exact HB.out)⟩⟩
  case rest =>
   clear HC4
   try clear c2
   try clear p2
   try clear c4
   try clear c6
   try clear c8
   obtain ⟨kq, x21_3, rfl, HA, HJ3, HB⟩ := hcut
   cases kq with
   | zero => exact absurd HA.out (by simp [impl_StairWalk.j0])
   | succ kj3 =>
    have H := HA.out
    clear HA
    simp only [impl_StairWalk.j0] at H
    by_cases c10 : x21_3 = true
    ·subst c10
     have H1 : (some ([] : List (S37))) = some r := by rw [if_pos rfl] at H; exact H
     clear H
     have H := H1
     clear H1
     obtain rfl := Option.some.inj H
     go_wp2
     go_ret
     exact ⟨_, by first | rfl | (simp [errW_none, errW_some] <;> rfl) | (simp [*, errW_none, errW_some] <;> rfl), Kd.V_nil _ _ _ _ _, by repeat (first | (with_reducible first | exact HB.out | apply below_alloc | apply pw_below_drewN | apply below_drew1) | exact HB.out)⟩
    ·replace c10 := Bool.eq_false_iff.mpr c10
     subst c10
     have H1 : (impl_StairWalk.l0 kj3 a0 a2 (([] : List (S37))) a1) = some r := by rw [if_neg (show ¬ (false = true) by decide)] at H; exact H
     clear H
     have H := H1
     clear H1
     obtain ⟨y160, hy160⟩ : ∃ y_ : List (S37), y_ = (([] : List (S37))) := ⟨_, rfl⟩
     replace H : (impl_StairWalk.l0 kj3 a0 a2 y160 a1) = some r := by first | (rw [hy160]; with_reducible exact H) | (have H2_ := (Option.bind_some _ _).symm.trans H; rw [hy160]; with_reducible exact H2_) | (have H2_ := (Option.bind_some _ _).symm.trans H; with_reducible exact H2_) | with_reducible exact H | (rw [hy160]; exact H) | exact H
     have Ny160 := Aside0.mk hy160
     clear hy160
     have H' := Aside0.mk H
     clear H
     go_wp2_with (first | ((with_reducible refine gate_dst (N := 22) rfl ?_); (try (refine gate_guard (by rfl) ?_; dsimp only)); refine Go.Proofs.YtnpjijakebdljaaX.Kd.R_make0 k37 _ 37 rfl (N := 22) rfl 26 _ _ rfl 12 rfl rfl Try.underlying26 (.agg #[(.int .i64 0), (.int .i64 0)]) 16 info37 (by omega) (ok := fun _ => True) trivial (by omega) (by omega) (Below.refl _ _) (Nat.le_refl _) ?_; intro v161 w11 ho12 hb hg_ hnew_; clear hg_ hnew_; (first | rw [← Ny160.out] at ho12 | (simp only [Int.reduceToNat] at ho12; rw [← Ny160.out] at ho12)); have n0_ := Aside0.mk (Kd.R_lower (Kd.R_newM (M := fun k_ => (w.heap.size ≤ k_)) ho12 (below_size (by repeat (first | (with_reducible first | exact HB.out | apply below_alloc | apply pw_below_drewN | apply below_drew1) | exact HB.out))) (fun k_ h_ => h_)) (below_size (by repeat (first | (with_reducible first | exact HB.out | apply below_alloc | apply pw_below_drewN | apply below_drew1) | exact HB.out)))); have n1_ := Aside0.mk (below_step (by repeat (first | (with_reducible first | exact HB.out | apply below_alloc | apply pw_below_drewN | apply below_drew1) | exact HB.out)) hb); clear HB; have HO162 := n0_; have HB := n1_; clear n0_ n1_; clear hb ho12))
     go_loopg [7, 8] kj3 (fun kq v7 v8 w' => ∃ (x7_2 : List (S37)) (x8_2 : Int), v8 = .int .i64 x8_2 ∧ Aside0 (impl_StairWalk.l0 kq a0 a2 x7_2 x8_2 = some r) ∧ Aside0 (kq ≤ kj3) ∧ Aside0 (Kd.R k37 37 w' w.heap.size (fun k_ => (w.heap.size ≤ k_)) v7 x7_2) ∧ Aside0 (Below w.heap.size w w'))
     case atStart => exact ⟨(y160), (a1), (by first | rfl | (simp; done) | (simp [*]; done) | (simp [*]; exact Option.some.inj (Eq.trans (Eq.symm (Aside0.out (by assumption))) (Aside0.out (by assumption))))), H', ⟨Nat.le_refl _⟩, ⟨by (with_reducible repeat (first | apply Kd.R_alloc | apply Kd.R_drewN | apply Kd.R_drew)); exact Kd.R_mono HO162.out (fun _ hk => hk.1)⟩, ⟨by repeat (first | (with_reducible first | exact HB.out | apply below_alloc | apply pw_below_drewN | apply below_drew1) | exact HB.out)⟩⟩
     case round =>
      clear H'
      try clear c1
      try clear c2
      try clear p2
      try clear c4
      try clear c6
      try clear c8
      try clear c10
      try clear p2
      obtain ⟨x7_2, x8_2, rfl, HA, HK2, HO_7, HB⟩ := hrel
      cases gk with
      | zero => exact absurd HA.out (by simp [impl_StairWalk.l0])
      | succ k2 =>
       have H := HA.out
       clear HA
       simp only [impl_StairWalk.l0] at H
       by_cases c13 : (wrap64 (x8_2 + a0)) ≤ 199
       ·rw [if_pos c13] at H
        have c13b0 : decide ((wrap64 (x8_2 + a0)) ≤ 199) = true := decide_eq_true c13
        clear c13
        by_cases c14 : (x7_2.length : Int) < 12
        ·rw [if_pos c14] at H
         have c14b0 : decide ((x7_2.length : Int) < 12) = true := decide_eq_true c14
         have c14b1 : decide (x7_2.length < 12) = true := decide_eq_true (by omega)
         clear c14
         by_cases c15 : x7_2.length < 8796093022208
         ·rw [if_pos c15] at H
          have LMc15 := Aside0.mk c15
          clear c15
          obtain ⟨y163, hy163⟩ : ∃ y_ : List (S37), y_ = (x7_2 ++ [(⟨x8_2, wrap64 (x8_2 + a0)⟩ : S37)]) := ⟨_, rfl⟩
          replace H : (impl_StairWalk.l0 k2 a0 a2 y163 (wrap64 (x8_2 + a2))) = some r := by first | (rw [hy163]; with_reducible exact H) | (have H2_ := (Option.bind_some _ _).symm.trans H; rw [hy163]; with_reducible exact H2_) | (have H2_ := (Option.bind_some _ _).symm.trans H; with_reducible exact H2_) | with_reducible exact H | (rw [hy163]; exact H) | exact H
          have Ny163 := Aside0.mk hy163
          clear hy163
          have H' := Aside0.mk H
          clear H
          obtain ⟨Ao16, co16, eo16⟩ := Kd.R_slice HO_7.out
          subst eo16
          go_wp2_with (first | ((with_reducible refine gate_builtin (b := .append) (xs := #[.tmp 36, .tmp 42]) rfl ?_); (try (refine gate_guard (by rfl) ?_; dsimp only)); at_builtin; refine Kd.R_append k37 (w0 := w) w.heap.size rfl (.tmp 36) (.tmp 42) 26 37 (.agg #[(.int .i64 0), (.int .i64 0)]) 16 rfl Try.underlying26 info37 rfl (by decide) (by omega) (.slice Ao16 x7_2.length co16) x7_2 (⟨x8_2, wrap64 (x8_2 + a0)⟩ : S37) [.int .i64 x8_2, .int .i64 (wrap64 (x8_2 + a0))] (fun k_ => (w.heap.size ≤ k_)) (fun _ => False) rfl rfl ?aP (fun _ hk => hk.elim) ?aF ?aO ?aB ?aS ?aL ?_; (case aP => exact k37_mkM _ _ _ (⟨x8_2, wrap64 (x8_2 + a0)⟩ : S37)); (case aB => exact (by repeat (first | (with_reducible first | exact HB.out | apply below_alloc | apply pw_below_drewN | apply below_drew1) | exact HB.out))); (case aF => exact (fun k_ hk => (Nat.le_trans (below_size (by repeat (first | (with_reducible first | exact HB.out | apply below_alloc | apply pw_below_drewN | apply below_drew1) | exact HB.out))) hk))); (case aO => exact (by (with_reducible repeat (first | apply Kd.R_alloc | apply Kd.R_drewN | apply Kd.R_drew)); exact HO_7.out)); (case aS => exact (below_size (by repeat (first | (with_reducible first | exact HB.out | apply below_alloc | apply pw_below_drewN | apply below_drew1) | exact HB.out)))); (case aL => have := LMc15.out; omega); intro v164 w17 ho hb hg hat; rw [← Ny163.out] at ho; have n0_ := Aside0.mk (hb); have n1_ := Aside0.mk (ho); clear HB; clear HO_7; have HB := n0_; have HO165 := n1_; clear n0_ n1_; clear ho hb hg hat))
          go_roundg k2
          case measure => have := HJ3.out; have := HK2.out; omega
          case rel => exact ⟨(y163), (wrap64 (x8_2 + a2)), (by first | rfl | (simp; done) | (simp [*]; done) | (simp [*]; exact Option.some.inj (Eq.trans (Eq.symm (Aside0.out (by assumption))) (Aside0.out (by assumption))))), H', ⟨by have := HJ3.out; have := HK2.out; omega⟩, ⟨by (with_reducible repeat (first | apply Kd.R_alloc | apply Kd.R_drewN | apply Kd.R_drew)); exact HO165.out⟩, ⟨by repeat (first | (with_reducible first | exact HB.out | apply below_alloc | apply pw_below_drewN | apply below_drew1) | exact HB.out)⟩⟩
         ·rw [if_neg c15] at H
          exact absurd H (by simp)
        ·rw [if_neg c14] at H
         have c14b0 : decide ((x7_2.length : Int) < 12) = false := decide_eq_false c14
         have c14b1 : decide (x7_2.length < 12) = false := decide_eq_false (by omega)
         clear c14
         obtain ⟨y166, hy166⟩ : ∃ y_ : List (S37), y_ = (x7_2) := ⟨_, rfl⟩
         replace H : (some y166) = some r := by first | (rw [hy166]; with_reducible exact H) | (have H2_ := (Option.bind_some _ _).symm.trans H; rw [hy166]; with_reducible exact H2_) | (have H2_ := (Option.bind_some _ _).symm.trans H; with_reducible exact H2_) | with_reducible exact H | (rw [hy166]; exact H) | exact H
         have Ny166 := Aside0.mk hy166
         clear hy166
         obtain rfl := Option.some.inj H
         obtain ⟨Ao18, co18, eo18⟩ := Kd.R_slice HO_7.out
         subst eo18
         obtain ⟨i019, hi019, _, hsz19, _⟩ := info_parts info37
         have hroom19 : x7_2.length ≤ co18 := (Kd.R_reads' HO_7.out).2.1
         have hC19 : Kd.F k37 _ _ Ao18 x7_2.length x7_2 := (Kd.V_at (base := w.heap.size) (Kd.R_V HO_7.out)).2.2
         have hy19 : y166.length = x7_2.length := (by rw [Ny166.out])
         have hcut19 : ∀ W : World, (Instr.slice 26 (.slice Ao18 x7_2.length co18) none (some (.int .i64 (x7_2.length : Int))) (some (.int .i64 (x7_2.length : Int)))).run Try.prog W = .ok (.slice Ao18 y166.length y166.length) W := (by rw [hy19]; exact Go.Proofs.YtnpjijakebdljaaX.clip_run (P := Try.prog) 26 37 Try.underlying26 hi019 Ao18 x7_2.length co18 hroom19)
         have hr19 := hC19
         rw [show x7_2 = y166 from Ny166.out.symm] at hr19
         have HO169 := Aside0.mk (show Kd.V k37 37 _ w.heap.size _ (.slice Ao18 y166.length y166.length) y166 from Kd.V_mk (Nat.le_refl _) hr19)
         clear hr19 hC19 hroom19 hi019 hsz19
         have KY19 := Aside0.mk hy19
         clear hy19
         go_wp2
         go_ret
         exact ⟨_, by first | rfl | (simp [errW_none, errW_some] <;> rfl) | (simp [*, errW_none, errW_some] <;> rfl), by (with_reducible repeat (first | apply Kd.V_alloc | apply Kd.V_drewN | apply Kd.V_drew)); exact HO169.out, by repeat (first | (with_reducible first | exact HB.out | apply below_alloc | apply pw_below_drewN | apply below_drew1) | exact HB.out)⟩
       ·rw [if_neg c13] at H
        have c13b0 : decide ((wrap64 (x8_2 + a0)) ≤ 199) = false := decide_eq_false c13
        clear c13
        obtain ⟨y170, hy170⟩ : ∃ y_ : List (S37), y_ = (x7_2) := ⟨_, rfl⟩
        replace H : (some y170) = some r := by first | (rw [hy170]; with_reducible exact H) | (have H2_ := (Option.bind_some _ _).symm.trans H; rw [hy170]; with_reducible exact H2_) | (have H2_ := (Option.bind_some _ _).symm.trans H; with_reducible exact H2_) | with_reducible exact H | (rw [hy170]; exact H) | exact H
        have Ny170 := Aside0.mk hy170
        clear hy170
        obtain rfl := Option.some.inj H
        obtain ⟨Ao20, co20, eo20⟩ := Kd.R_slice HO_7.out
        subst eo20
        obtain ⟨i021, hi021, _, hsz21, _⟩ := info_parts info37
        have hroom21 : x7_2.length ≤ co20 := (Kd.R_reads' HO_7.out).2.1
        have hC21 : Kd.F k37 _ _ Ao20 x7_2.length x7_2 := (Kd.V_at (base := w.heap.size) (Kd.R_V HO_7.out)).2.2
        have hy21 : y170.length = x7_2.length := (by rw [Ny170.out])
        have hcut21 : ∀ W : World, (Instr.slice 26 (.slice Ao20 x7_2.length co20) none (some (.int .i64 (x7_2.length : Int))) (some (.int .i64 (x7_2.length : Int)))).run Try.prog W = .ok (.slice Ao20 y170.length y170.length) W := (by rw [hy21]; exact Go.Proofs.YtnpjijakebdljaaX.clip_run (P := Try.prog) 26 37 Try.underlying26 hi021 Ao20 x7_2.length co20 hroom21)
        have hr21 := hC21
        rw [show x7_2 = y170 from Ny170.out.symm] at hr21
        have HO173 := Aside0.mk (show Kd.V k37 37 _ w.heap.size _ (.slice Ao20 y170.length y170.length) y170 from Kd.V_mk (Nat.le_refl _) hr21)
        clear hr21 hC21 hroom21 hi021 hsz21
        have KY21 := Aside0.mk hy21
        clear hy21
        go_wp2
        go_ret
        exact ⟨_, by first | rfl | (simp [errW_none, errW_some] <;> rfl) | (simp [*, errW_none, errW_some] <;> rfl), by (with_reducible repeat (first | apply Kd.V_alloc | apply Kd.V_drewN | apply Kd.V_drew)); exact HO173.out, by repeat (first | (with_reducible first | exact HB.out | apply below_alloc | apply pw_below_drewN | apply below_drew1) | exact HB.out)⟩

end Go.Proofs.Ytnpjijakebdljaa.Print
