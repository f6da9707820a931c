-- Made by this session's own program (wip/patch_print.py, over the kit's print). Lean checks it.
import Derived.Test.YtfpfaaibgaejjaaPrint0
import Derived.Test.YtfpfaaibgaejjaaPrintB
import Derived.Test.YtfpfaaibgaejjaaPrintF34
import Derived.Test.YtfpfaaibgaejjaaPrintF35
namespace Go.Proofs.Ytfpfaaibgaejjaa.Print
open Go.RowKit Go.Proofs.YtfpfaaibgaejjaaW.PrintWords Go.Proofs.YtfpfaaibgaejjaaW.PrintLast Go.Proofs.YtfpfaaibgaejjaaW.PrintMore Go.Proofs.YtfpfaaibgaejjaaX
attribute [local go_sem] max2_int min2_int max_two min_two max_three min_three max_four min_four   -- for this text's walks alone
set_option linter.unusedVariables false
set_option linter.unusedSimpArgs false

/-! ### spec_StairOf: function 17 -/
def spec_StairOf.l0 : Nat → List (S36) → Int → Option ((List (S36)) × Bool)
  | 0, _, _ => none
  | k + 1, x0, x4 => if x4 < (x0.length : Int) then (if 0 ≤ x4 then ((spec_l1In.f ((rd_T36 x0 x4).f0) 0 199).bind fun t174 => (if t174 = true then ((spec_l1In.f ((rd_T36 x0 x4).f1) ((rd_T36 x0 x4).f0) 199).bind fun t177 => (if t177 = true then (spec_StairOf.l0 k x0 (wrap64 (x4 + 1))) else (some (([] : List (S36)), false)))) else (some (([] : List (S36)), false)))) else (none)) else ((spec_l5Tidy.f k x0).bind fun t178 => ((spec_l5Ok.f k t178).bind fun t181 => (if t181 = true then (some (t178, true)) else (some (([] : List (S36)), false)))))
def spec_StairOf.f (k : Nat) (l0 : List (S36)) : Option ((List (S36)) × Bool) := spec_StairOf.l0 k l0 0
theorem spec_StairOf.mono_l : ∀ k, (∀ y0 y1, LeO (spec_StairOf.l0 k y0 y1) (spec_StairOf.l0 (k + 1) y0 y1))
  | 0 => fun _ _ r h => by simp [spec_StairOf.l0] at h
  | k + 1 => by
    have ih0 := spec_StairOf.mono_l k
    · intro y0 y1
      unfold spec_StairOf.l0
      repeat' first | (with_reducible first | exact ih0 _ _ | exact spec_l5Ok.mono _ _ | exact spec_l5Tidy.mono _ _ | exact LeO.refl _ | exact LeO.none _ | refine LeO.ite ?_ ?_ | refine LeO.bind ?_ (fun _ => ?_)) | exact ih0 _ _ | exact spec_l5Ok.mono _ _ | exact spec_l5Tidy.mono _ _ | exact LeO.none _ | refine LeO.ite ?_ ?_ | refine LeO.bind ?_ (fun _ => ?_)
theorem spec_StairOf.mono : ∀ a0 k, LeO (spec_StairOf.f k a0) (spec_StairOf.f (k + 1) a0) := by
  intro a0 k
  have ih0 := spec_StairOf.mono_l k
  unfold spec_StairOf.f
  repeat' first | (with_reducible first | exact ih0 _ _ | exact spec_l5Ok.mono _ _ | exact spec_l5Tidy.mono _ _ | exact LeO.refl _ | exact LeO.none _ | refine LeO.ite ?_ ?_ | refine LeO.bind ?_ (fun _ => ?_)) | exact ih0 _ _ | exact spec_l5Ok.mono _ _ | exact spec_l5Tidy.mono _ _ | exact LeO.none _ | refine LeO.ite ?_ ?_ | refine LeO.bind ?_ (fun _ => ?_)
set_option maxHeartbeats 200000000 in
set_option maxRecDepth 100000 in
theorem spec_StairOf.calls (k : Nat) (A0 : Option Addr) (c0 : Nat) (l0 : List (S36)) (r1 : List (S36)) (r2 : Bool) (w : World) (hr0 : Kd.C k36 w A0 l0.length l0) (hc0 : l0.length ≤ c0) (h : spec_StairOf.f k l0 = some (r1, r2)) :
    Calls Try.prog 17 #[.slice A0 l0.length c0] w fun e w' => ∃ v0_ : Value, e = .returned (.tuple #[v0_, .bool r2]) ∧ Kd.R k36 36 w' w.heap.size (fun _ => True) v0_ r1 ∧ Below w.heap.size w w' := by
  have HR0 := Aside0.mk hr0
  have HC0 := Aside0.mk hc0
  clear hr0 hc0
  have HB := Aside0.mk (Below.refl w.heap.size w)
  have H : (spec_StairOf.l0 k l0 0) = some (r1, r2) := h
  clear h
  have H' := Aside0.mk H
  clear H
  go_enter Try.func17, Try.ntmps17
  go_wp2
  repeat (go_quiet (fail); try go_wp2)
  go_loopg [4] k (fun kq v4 w' => ∃ (x4_1 : Int), v4 = .int .i64 x4_1 ∧ Aside0 (spec_StairOf.l0 kq l0 x4_1 = some (r1, r2)) ∧ Aside0 (kq ≤ k) ∧ Aside0 (Below w.heap.size w w'))
  case atStart => exact ⟨(0), ns_, H', ⟨Nat.le_refl _⟩, ⟨ne_ HB.out⟩⟩
  case round =>
   clear H'
   obtain ⟨x4_1, rfl, HA, HK1, HB⟩ := hrel
   cases gk with
   | zero => exact absurd HA.out (by simp [spec_StairOf.l0])
   | succ k1 =>
    have H := HA.out
    clear HA
    simp only [spec_StairOf.l0] at H
    by_cases c2 : x4_1 < (l0.length : Int)
    rotate_left
    ·rw [if_neg c2] at H
     have c2b0 : decide (x4_1 < (l0.length : Int)) = false := decide_eq_false c2
     clear c2
     replace H := Option.bind_eq_some_iff.mp H
     obtain ⟨t178, A80, H⟩ := H
     try dsimp only at H
     have A8 := Aside0.mk A80
     clear A80
     replace H := Option.bind_eq_some_iff.mp H
     obtain ⟨t181, A90, H⟩ := H
     replace H : (if t181 = true then (some (t178, true)) else (some (([] : List (S36)), false))) = some (r1, r2) := H
     have A9 := Aside0.mk A90
     clear A90
     by_cases c10 : t181 = true
     ·subst c10
      have H1 : (some (t178, true)) = some (r1, r2) := by rw [if_pos rfl] at H; exact H
      clear H
      have H := H1
      clear H1
      simp only [Option.some.injEq, Prod.mk.injEq] at H
      obtain ⟨rfl, rfl⟩ := H
      go_wp2_with (first | (go_at_call 34; (with_reducible refine (spec_l5Tidy.calls k1 _ _ l0 t178 _ ?side1 ?side2 A8.out).mono ?_); (case side1 => exact nc_ (Kd.C_below HR0.out HB.out)); (case side2 => exact HC0.out); rintro e w11 ⟨v179, rfl, ho0, hb⟩; have HO180 := Aside0.mk (Kd.R_lower ho0 (below_size (ne_ HB.out))); replace HB := kB_ HB hb; (try clear hb); (try clear hb2); (try clear hk); (try clear hi); (try clear ho0); obtain ⟨Ao12, co12, eo12⟩ := Kd.R_slice HO180.out; subst eo12) | (go_at_call 35; (with_reducible refine (spec_l5Ok.calls k1 _ _ t178 true _ ?side1 ?side2 A9.out).mono ?_); (case side1 => exact nc_ (Kd.R_reads' HO180.out).2.2); (case side2 => exact (Kd.R_reads' HO180.out).2.1); rintro e w13 ⟨rfl, hb⟩; replace HO180 := kR_ HO180 hb; replace HB := kB_ HB hb; (try clear hb); (try clear hb2); (try clear hk); (try clear hi)))
      repeat (go_quiet (first | (go_at_call 34; (with_reducible refine (spec_l5Tidy.calls k1 _ _ l0 t178 _ ?side1 ?side2 A8.out).mono ?_); (case side1 => exact nc_ (Kd.C_below HR0.out HB.out)); (case side2 => exact HC0.out); rintro e w11 ⟨v179, rfl, ho0, hb⟩; have HO180 := Aside0.mk (Kd.R_lower ho0 (below_size (ne_ HB.out))); replace HB := kB_ HB hb; (try clear hb); (try clear hb2); (try clear hk); (try clear hi); (try clear ho0); obtain ⟨Ao12, co12, eo12⟩ := Kd.R_slice HO180.out; subst eo12) | (go_at_call 35; (with_reducible refine (spec_l5Ok.calls k1 _ _ t178 true _ ?side1 ?side2 A9.out).mono ?_); (case side1 => exact nc_ (Kd.R_reads' HO180.out).2.2); (case side2 => exact (Kd.R_reads' HO180.out).2.1); rintro e w13 ⟨rfl, hb⟩; replace HO180 := kR_ HO180 hb; replace HB := kB_ HB hb; (try clear hb); (try clear hb2); (try clear hk); (try clear hi))); try go_wp2_with (first | (go_at_call 34; (with_reducible refine (spec_l5Tidy.calls k1 _ _ l0 t178 _ ?side1 ?side2 A8.out).mono ?_); (case side1 => exact nc_ (Kd.C_below HR0.out HB.out)); (case side2 => exact HC0.out); rintro e w11 ⟨v179, rfl, ho0, hb⟩; have HO180 := Aside0.mk (Kd.R_lower ho0 (below_size (ne_ HB.out))); replace HB := kB_ HB hb; (try clear hb); (try clear hb2); (try clear hk); (try clear hi); (try clear ho0); obtain ⟨Ao12, co12, eo12⟩ := Kd.R_slice HO180.out; subst eo12) | (go_at_call 35; (with_reducible refine (spec_l5Ok.calls k1 _ _ t178 true _ ?side1 ?side2 A9.out).mono ?_); (case side1 => exact nc_ (Kd.R_reads' HO180.out).2.2); (case side2 => exact (Kd.R_reads' HO180.out).2.1); rintro e w13 ⟨rfl, hb⟩; replace HO180 := kR_ HO180 hb; replace HB := kB_ HB hb; (try clear hb); (try clear hb2); (try clear hk); (try clear hi))))
      go_ret2
      exact ⟨_, nw_, nr_ HO180.out, ne_ HB.out⟩
     replace c10 := Bool.eq_false_iff.mpr c10
     subst c10
     have H1 : (some (([] : List (S36)), false)) = some (r1, r2) := by rw [if_neg (show ¬ (false = true) by decide)] at H; exact H
     clear H
     have H := H1
     clear H1
     simp only [Option.some.injEq, Prod.mk.injEq] at H
     obtain ⟨rfl, rfl⟩ := H
     go_wp2_with (first | (go_at_call 34; (with_reducible refine (spec_l5Tidy.calls k1 _ _ l0 t178 _ ?side1 ?side2 A8.out).mono ?_); (case side1 => exact nc_ (Kd.C_below HR0.out HB.out)); (case side2 => exact HC0.out); rintro e w14 ⟨v179, rfl, ho0, hb⟩; have HO180 := Aside0.mk (Kd.R_lower ho0 (below_size (ne_ HB.out))); replace HB := kB_ HB hb; (try clear hb); (try clear hb2); (try clear hk); (try clear hi); (try clear ho0); obtain ⟨Ao15, co15, eo15⟩ := Kd.R_slice HO180.out; subst eo15) | (go_at_call 35; (with_reducible refine (spec_l5Ok.calls k1 _ _ t178 false _ ?side1 ?side2 A9.out).mono ?_); (case side1 => exact nc_ (Kd.R_reads' HO180.out).2.2); (case side2 => exact (Kd.R_reads' HO180.out).2.1); rintro e w16 ⟨rfl, hb⟩; replace HO180 := kR_ HO180 hb; replace HB := kB_ HB hb; (try clear hb); (try clear hb2); (try clear hk); (try clear hi)))
     repeat (go_quiet (first | (go_at_call 34; (with_reducible refine (spec_l5Tidy.calls k1 _ _ l0 t178 _ ?side1 ?side2 A8.out).mono ?_); (case side1 => exact nc_ (Kd.C_below HR0.out HB.out)); (case side2 => exact HC0.out); rintro e w14 ⟨v179, rfl, ho0, hb⟩; have HO180 := Aside0.mk (Kd.R_lower ho0 (below_size (ne_ HB.out))); replace HB := kB_ HB hb; (try clear hb); (try clear hb2); (try clear hk); (try clear hi); (try clear ho0); obtain ⟨Ao15, co15, eo15⟩ := Kd.R_slice HO180.out; subst eo15) | (go_at_call 35; (with_reducible refine (spec_l5Ok.calls k1 _ _ t178 false _ ?side1 ?side2 A9.out).mono ?_); (case side1 => exact nc_ (Kd.R_reads' HO180.out).2.2); (case side2 => exact (Kd.R_reads' HO180.out).2.1); rintro e w16 ⟨rfl, hb⟩; replace HO180 := kR_ HO180 hb; replace HB := kB_ HB hb; (try clear hb); (try clear hb2); (try clear hk); (try clear hi))); try go_wp2_with (first | (go_at_call 34; (with_reducible refine (spec_l5Tidy.calls k1 _ _ l0 t178 _ ?side1 ?side2 A8.out).mono ?_); (case side1 => exact nc_ (Kd.C_below HR0.out HB.out)); (case side2 => exact HC0.out); rintro e w14 ⟨v179, rfl, ho0, hb⟩; have HO180 := Aside0.mk (Kd.R_lower ho0 (below_size (ne_ HB.out))); replace HB := kB_ HB hb; (try clear hb); (try clear hb2); (try clear hk); (try clear hi); (try clear ho0); obtain ⟨Ao15, co15, eo15⟩ := Kd.R_slice HO180.out; subst eo15) | (go_at_call 35; (with_reducible refine (spec_l5Ok.calls k1 _ _ t178 false _ ?side1 ?side2 A9.out).mono ?_); (case side1 => exact nc_ (Kd.R_reads' HO180.out).2.2); (case side2 => exact (Kd.R_reads' HO180.out).2.1); rintro e w16 ⟨rfl, hb⟩; replace HO180 := kR_ HO180 hb; replace HB := kB_ HB hb; (try clear hb); (try clear hb2); (try clear hk); (try clear hi))))
     go_ret2
     exact ⟨_, nw_, by first | exact Kd.R_nil _ _ _ _ _ | exact Kd.N_nil _ _ _ _ _ | exact Kd.V_nil _ _ _ _ _ | exact Kd.Q_nil _ _ _ _ _ | exact Kd.S_nil _ _ _ _ _, ne_ HB.out⟩

    rw [if_pos c2] at H
    have c2b0 : decide (x4_1 < (l0.length : Int)) = true := decide_eq_true c2
    clear c2
    by_cases c3 : 0 ≤ x4_1
    rotate_left
    ·rw [if_neg c3] at H
     exact absurd H (by simp)
    rw [if_pos c3] at H
    have c3b0 : decide (0 ≤ x4_1) = true := decide_eq_true c3
    clear c3
    replace H := Option.bind_eq_some_iff.mp H
    obtain ⟨t174, A40, H⟩ := H
    try dsimp only at H
    have A4 := Aside0.mk A40
    clear A40
    by_cases c5 : t174 = true
    rotate_left
    ·replace c5 := Bool.eq_false_iff.mpr c5
     subst c5
     have H1 : (some (([] : List (S36)), false)) = some (r1, r2) := by rw [if_neg (show ¬ (false = true) by decide)] at H; exact H
     clear H
     have H := H1
     clear H1
     simp only [Option.some.injEq, Prod.mk.injEq] at H
     obtain ⟨rfl, rfl⟩ := H
     have p173 : 0 ≤ (x4_1 : Int) := of_decide_eq_true nx_
     have q173 : x4_1 < (l0.length : Int) := of_decide_eq_true nx_
     obtain ⟨ad173, e173, hx173_0, hx173_1⟩ := at_T36 HR0.out x4_1 p173 q173
     cases e173
     replace hx173_0 := hb_ HB.out hx173_0
     replace hx173_1 := hb_ HB.out hx173_1
     replace p173 := eq_true p173
     replace q173 := eq_true q173
     go_wp2_with (first | (go_at_call 30; (with_reducible refine (spec_l1In.calls ((rd_T36 l0 x4_1).f0) 0 199 false _ A4.out).mono ?_); rintro e w' ⟨rfl, ⟨nd, rfl⟩⟩; (try first | exact ⟨rfl, _, World.drewN_drewN _ _ _⟩ | exact ⟨rfl, _, Eq.trans (World.drewN_drewN _ _ _) (congrArg (World.drewN _) (Nat.add_assoc _ _ _))⟩)))
     repeat (go_quiet (first | (go_at_call 30; (with_reducible refine (spec_l1In.calls ((rd_T36 l0 x4_1).f0) 0 199 false _ A4.out).mono ?_); rintro e w' ⟨rfl, ⟨nd, rfl⟩⟩; (try first | exact ⟨rfl, _, World.drewN_drewN _ _ _⟩ | exact ⟨rfl, _, Eq.trans (World.drewN_drewN _ _ _) (congrArg (World.drewN _) (Nat.add_assoc _ _ _))⟩))); try go_wp2_with (first | (go_at_call 30; (with_reducible refine (spec_l1In.calls ((rd_T36 l0 x4_1).f0) 0 199 false _ A4.out).mono ?_); rintro e w' ⟨rfl, ⟨nd, rfl⟩⟩; (try first | exact ⟨rfl, _, World.drewN_drewN _ _ _⟩ | exact ⟨rfl, _, Eq.trans (World.drewN_drewN _ _ _) (congrArg (World.drewN _) (Nat.add_assoc _ _ _))⟩))))
     go_ret2
     exact ⟨_, nw_, by first | exact Kd.R_nil _ _ _ _ _ | exact Kd.N_nil _ _ _ _ _ | exact Kd.V_nil _ _ _ _ _ | exact Kd.Q_nil _ _ _ _ _ | exact Kd.S_nil _ _ _ _ _, ne_ HB.out⟩
    subst c5
    rw [if_pos rfl] at H
    replace H := Option.bind_eq_some_iff.mp H
    obtain ⟨t177, A60, H⟩ := H
    try dsimp only at H
    have A6 := Aside0.mk A60
    clear A60
    by_cases c7 : t177 = true
    ·subst c7
     have H1 : (spec_StairOf.l0 k1 l0 (wrap64 (x4_1 + 1))) = some (r1, r2) := by rw [if_pos rfl] at H; exact H
     clear H
     have H := H1
     clear H1
     have H' := Aside0.mk H
     clear H
     have p173 : 0 ≤ (x4_1 : Int) := of_decide_eq_true nx_
     have q173 : x4_1 < (l0.length : Int) := of_decide_eq_true nx_
     obtain ⟨ad173, e173, hx173_0, hx173_1⟩ := at_T36 HR0.out x4_1 p173 q173
     cases e173
     replace hx173_0 := hb_ HB.out hx173_0
     replace hx173_1 := hb_ HB.out hx173_1
     replace p173 := eq_true p173
     replace q173 := eq_true q173
     go_wp2_with (first | (go_at_call 30; (with_reducible refine (spec_l1In.calls ((rd_T36 l0 x4_1).f0) 0 199 true _ A4.out).mono ?_); rintro e w' ⟨rfl, ⟨nd, rfl⟩⟩; (try first | exact ⟨rfl, _, World.drewN_drewN _ _ _⟩ | exact ⟨rfl, _, Eq.trans (World.drewN_drewN _ _ _) (congrArg (World.drewN _) (Nat.add_assoc _ _ _))⟩); have p175 : 0 ≤ (x4_1 : Int) := of_decide_eq_true nx_; have q175 : x4_1 < (l0.length : Int) := of_decide_eq_true nx_; obtain ⟨ad175, e175, hx175_0, hx175_1⟩ := at_T36 HR0.out x4_1 p175 q175; obtain rfl : ad173 = ad175 := (by injection e175); replace hx175_0 := hb_ HB.out hx175_0; replace hx175_1 := hb_ HB.out hx175_1; replace p175 := eq_true p175; replace q175 := eq_true q175; have p176 : 0 ≤ (x4_1 : Int) := of_decide_eq_true nx_; have q176 : x4_1 < (l0.length : Int) := of_decide_eq_true nx_; obtain ⟨ad176, e176, hx176_0, hx176_1⟩ := at_T36 HR0.out x4_1 p176 q176; obtain rfl : ad173 = ad176 := (by injection e176); replace hx176_0 := hb_ HB.out hx176_0; replace hx176_1 := hb_ HB.out hx176_1; replace p176 := eq_true p176; replace q176 := eq_true q176) | (go_at_call 30; (with_reducible refine (spec_l1In.calls ((rd_T36 l0 x4_1).f1) ((rd_T36 l0 x4_1).f0) 199 true _ A6.out).mono ?_); rintro e w' ⟨rfl, ⟨nd, rfl⟩⟩; (try first | exact ⟨rfl, _, World.drewN_drewN _ _ _⟩ | exact ⟨rfl, _, Eq.trans (World.drewN_drewN _ _ _) (congrArg (World.drewN _) (Nat.add_assoc _ _ _))⟩)))
     repeat (go_quiet (first | (go_at_call 30; (with_reducible refine (spec_l1In.calls ((rd_T36 l0 x4_1).f0) 0 199 true _ A4.out).mono ?_); rintro e w' ⟨rfl, ⟨nd, rfl⟩⟩; (try first | exact ⟨rfl, _, World.drewN_drewN _ _ _⟩ | exact ⟨rfl, _, Eq.trans (World.drewN_drewN _ _ _) (congrArg (World.drewN _) (Nat.add_assoc _ _ _))⟩); have p175 : 0 ≤ (x4_1 : Int) := of_decide_eq_true nx_; have q175 : x4_1 < (l0.length : Int) := of_decide_eq_true nx_; obtain ⟨ad175, e175, hx175_0, hx175_1⟩ := at_T36 HR0.out x4_1 p175 q175; obtain rfl : ad173 = ad175 := (by injection e175); replace hx175_0 := hb_ HB.out hx175_0; replace hx175_1 := hb_ HB.out hx175_1; replace p175 := eq_true p175; replace q175 := eq_true q175; have p176 : 0 ≤ (x4_1 : Int) := of_decide_eq_true nx_; have q176 : x4_1 < (l0.length : Int) := of_decide_eq_true nx_; obtain ⟨ad176, e176, hx176_0, hx176_1⟩ := at_T36 HR0.out x4_1 p176 q176; obtain rfl : ad173 = ad176 := (by injection e176); replace hx176_0 := hb_ HB.out hx176_0; replace hx176_1 := hb_ HB.out hx176_1; replace p176 := eq_true p176; replace q176 := eq_true q176) | (go_at_call 30; (with_reducible refine (spec_l1In.calls ((rd_T36 l0 x4_1).f1) ((rd_T36 l0 x4_1).f0) 199 true _ A6.out).mono ?_); rintro e w' ⟨rfl, ⟨nd, rfl⟩⟩; (try first | exact ⟨rfl, _, World.drewN_drewN _ _ _⟩ | exact ⟨rfl, _, Eq.trans (World.drewN_drewN _ _ _) (congrArg (World.drewN _) (Nat.add_assoc _ _ _))⟩))); try go_wp2_with (first | (go_at_call 30; (with_reducible refine (spec_l1In.calls ((rd_T36 l0 x4_1).f0) 0 199 true _ A4.out).mono ?_); rintro e w' ⟨rfl, ⟨nd, rfl⟩⟩; (try first | exact ⟨rfl, _, World.drewN_drewN _ _ _⟩ | exact ⟨rfl, _, Eq.trans (World.drewN_drewN _ _ _) (congrArg (World.drewN _) (Nat.add_assoc _ _ _))⟩); have p175 : 0 ≤ (x4_1 : Int) := of_decide_eq_true nx_; have q175 : x4_1 < (l0.length : Int) := of_decide_eq_true nx_; obtain ⟨ad175, e175, hx175_0, hx175_1⟩ := at_T36 HR0.out x4_1 p175 q175; obtain rfl : ad173 = ad175 := (by injection e175); replace hx175_0 := hb_ HB.out hx175_0; replace hx175_1 := hb_ HB.out hx175_1; replace p175 := eq_true p175; replace q175 := eq_true q175; have p176 : 0 ≤ (x4_1 : Int) := of_decide_eq_true nx_; have q176 : x4_1 < (l0.length : Int) := of_decide_eq_true nx_; obtain ⟨ad176, e176, hx176_0, hx176_1⟩ := at_T36 HR0.out x4_1 p176 q176; obtain rfl : ad173 = ad176 := (by injection e176); replace hx176_0 := hb_ HB.out hx176_0; replace hx176_1 := hb_ HB.out hx176_1; replace p176 := eq_true p176; replace q176 := eq_true q176) | (go_at_call 30; (with_reducible refine (spec_l1In.calls ((rd_T36 l0 x4_1).f1) ((rd_T36 l0 x4_1).f0) 199 true _ A6.out).mono ?_); rintro e w' ⟨rfl, ⟨nd, rfl⟩⟩; (try first | exact ⟨rfl, _, World.drewN_drewN _ _ _⟩ | exact ⟨rfl, _, Eq.trans (World.drewN_drewN _ _ _) (congrArg (World.drewN _) (Nat.add_assoc _ _ _))⟩))))
     go_roundg k1
     case measure => have := HK1.out; omega
     case rel => exact ⟨(wrap64 (x4_1 + 1)), ns_, H', ⟨by have := HK1.out; omega⟩, ⟨ne_ HB.out⟩⟩
    replace c7 := Bool.eq_false_iff.mpr c7
    subst c7
    have H1 : (some (([] : List (S36)), false)) = some (r1, r2) := by rw [if_neg (show ¬ (false = true) by decide)] at H; exact H
    clear H
    have H := H1
    clear H1
    simp only [Option.some.injEq, Prod.mk.injEq] at H
    obtain ⟨rfl, rfl⟩ := H
    have p173 : 0 ≤ (x4_1 : Int) := of_decide_eq_true nx_
    have q173 : x4_1 < (l0.length : Int) := of_decide_eq_true nx_
    obtain ⟨ad173, e173, hx173_0, hx173_1⟩ := at_T36 HR0.out x4_1 p173 q173
    cases e173
    replace hx173_0 := hb_ HB.out hx173_0
    replace hx173_1 := hb_ HB.out hx173_1
    replace p173 := eq_true p173
    replace q173 := eq_true q173
    go_wp2_with (first | (go_at_call 30; (with_reducible refine (spec_l1In.calls ((rd_T36 l0 x4_1).f0) 0 199 true _ A4.out).mono ?_); rintro e w' ⟨rfl, ⟨nd, rfl⟩⟩; (try first | exact ⟨rfl, _, World.drewN_drewN _ _ _⟩ | exact ⟨rfl, _, Eq.trans (World.drewN_drewN _ _ _) (congrArg (World.drewN _) (Nat.add_assoc _ _ _))⟩); have p175 : 0 ≤ (x4_1 : Int) := of_decide_eq_true nx_; have q175 : x4_1 < (l0.length : Int) := of_decide_eq_true nx_; obtain ⟨ad175, e175, hx175_0, hx175_1⟩ := at_T36 HR0.out x4_1 p175 q175; obtain rfl : ad173 = ad175 := (by injection e175); replace hx175_0 := hb_ HB.out hx175_0; replace hx175_1 := hb_ HB.out hx175_1; replace p175 := eq_true p175; replace q175 := eq_true q175; have p176 : 0 ≤ (x4_1 : Int) := of_decide_eq_true nx_; have q176 : x4_1 < (l0.length : Int) := of_decide_eq_true nx_; obtain ⟨ad176, e176, hx176_0, hx176_1⟩ := at_T36 HR0.out x4_1 p176 q176; obtain rfl : ad173 = ad176 := (by injection e176); replace hx176_0 := hb_ HB.out hx176_0; replace hx176_1 := hb_ HB.out hx176_1; replace p176 := eq_true p176; replace q176 := eq_true q176) | (go_at_call 30; (with_reducible refine (spec_l1In.calls ((rd_T36 l0 x4_1).f1) ((rd_T36 l0 x4_1).f0) 199 false _ A6.out).mono ?_); rintro e w' ⟨rfl, ⟨nd, rfl⟩⟩; (try first | exact ⟨rfl, _, World.drewN_drewN _ _ _⟩ | exact ⟨rfl, _, Eq.trans (World.drewN_drewN _ _ _) (congrArg (World.drewN _) (Nat.add_assoc _ _ _))⟩)))
    repeat (go_quiet (first | (go_at_call 30; (with_reducible refine (spec_l1In.calls ((rd_T36 l0 x4_1).f0) 0 199 true _ A4.out).mono ?_); rintro e w' ⟨rfl, ⟨nd, rfl⟩⟩; (try first | exact ⟨rfl, _, World.drewN_drewN _ _ _⟩ | exact ⟨rfl, _, Eq.trans (World.drewN_drewN _ _ _) (congrArg (World.drewN _) (Nat.add_assoc _ _ _))⟩); have p175 : 0 ≤ (x4_1 : Int) := of_decide_eq_true nx_; have q175 : x4_1 < (l0.length : Int) := of_decide_eq_true nx_; obtain ⟨ad175, e175, hx175_0, hx175_1⟩ := at_T36 HR0.out x4_1 p175 q175; obtain rfl : ad173 = ad175 := (by injection e175); replace hx175_0 := hb_ HB.out hx175_0; replace hx175_1 := hb_ HB.out hx175_1; replace p175 := eq_true p175; replace q175 := eq_true q175; have p176 : 0 ≤ (x4_1 : Int) := of_decide_eq_true nx_; have q176 : x4_1 < (l0.length : Int) := of_decide_eq_true nx_; obtain ⟨ad176, e176, hx176_0, hx176_1⟩ := at_T36 HR0.out x4_1 p176 q176; obtain rfl : ad173 = ad176 := (by injection e176); replace hx176_0 := hb_ HB.out hx176_0; replace hx176_1 := hb_ HB.out hx176_1; replace p176 := eq_true p176; replace q176 := eq_true q176) | (go_at_call 30; (with_reducible refine (spec_l1In.calls ((rd_T36 l0 x4_1).f1) ((rd_T36 l0 x4_1).f0) 199 false _ A6.out).mono ?_); rintro e w' ⟨rfl, ⟨nd, rfl⟩⟩; (try first | exact ⟨rfl, _, World.drewN_drewN _ _ _⟩ | exact ⟨rfl, _, Eq.trans (World.drewN_drewN _ _ _) (congrArg (World.drewN _) (Nat.add_assoc _ _ _))⟩))); try go_wp2_with (first | (go_at_call 30; (with_reducible refine (spec_l1In.calls ((rd_T36 l0 x4_1).f0) 0 199 true _ A4.out).mono ?_); rintro e w' ⟨rfl, ⟨nd, rfl⟩⟩; (try first | exact ⟨rfl, _, World.drewN_drewN _ _ _⟩ | exact ⟨rfl, _, Eq.trans (World.drewN_drewN _ _ _) (congrArg (World.drewN _) (Nat.add_assoc _ _ _))⟩); have p175 : 0 ≤ (x4_1 : Int) := of_decide_eq_true nx_; have q175 : x4_1 < (l0.length : Int) := of_decide_eq_true nx_; obtain ⟨ad175, e175, hx175_0, hx175_1⟩ := at_T36 HR0.out x4_1 p175 q175; obtain rfl : ad173 = ad175 := (by injection e175); replace hx175_0 := hb_ HB.out hx175_0; replace hx175_1 := hb_ HB.out hx175_1; replace p175 := eq_true p175; replace q175 := eq_true q175; have p176 : 0 ≤ (x4_1 : Int) := of_decide_eq_true nx_; have q176 : x4_1 < (l0.length : Int) := of_decide_eq_true nx_; obtain ⟨ad176, e176, hx176_0, hx176_1⟩ := at_T36 HR0.out x4_1 p176 q176; obtain rfl : ad173 = ad176 := (by injection e176); replace hx176_0 := hb_ HB.out hx176_0; replace hx176_1 := hb_ HB.out hx176_1; replace p176 := eq_true p176; replace q176 := eq_true q176) | (go_at_call 30; (with_reducible refine (spec_l1In.calls ((rd_T36 l0 x4_1).f1) ((rd_T36 l0 x4_1).f0) 199 false _ A6.out).mono ?_); rintro e w' ⟨rfl, ⟨nd, rfl⟩⟩; (try first | exact ⟨rfl, _, World.drewN_drewN _ _ _⟩ | exact ⟨rfl, _, Eq.trans (World.drewN_drewN _ _ _) (congrArg (World.drewN _) (Nat.add_assoc _ _ _))⟩))))
    go_ret2
    exact ⟨_, nw_, by first | exact Kd.R_nil _ _ _ _ _ | exact Kd.N_nil _ _ _ _ _ | exact Kd.V_nil _ _ _ _ _ | exact Kd.Q_nil _ _ _ _ _ | exact Kd.S_nil _ _ _ _ _, ne_ HB.out⟩
end Go.Proofs.Ytfpfaaibgaejjaa.Print
