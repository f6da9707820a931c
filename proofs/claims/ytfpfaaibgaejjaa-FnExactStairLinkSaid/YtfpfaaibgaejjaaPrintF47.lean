-- Made by this session's own program (wip/patch_print.py, over the kit's print). Lean checks it.
import Derived.Test.YtfpfaaibgaejjaaPrint0
import Derived.Test.YtfpfaaibgaejjaaPrintB
import Derived.Test.YtfpfaaibgaejjaaPrintF34
namespace Go.Proofs.Ytfpfaaibgaejjaa.Print
open Go.RowKit Go.Proofs.YtfpfaaibgaejjaaW.PrintWords Go.Proofs.YtfpfaaibgaejjaaW.PrintLast Go.Proofs.YtfpfaaibgaejjaaW.PrintMore Go.Proofs.YtfpfaaibgaejjaaX
attribute [local go_sem] max2_int min2_int max_two min_two max_three min_three max_four min_four   -- for this text's walks alone
set_option linter.unusedVariables false
set_option linter.unusedSimpArgs false

/-! ### spec_l5Link: function 47 -/
def spec_l5Link.l0 : Nat → List (S36) → List (S36) → List (S36) → Int → Option ((List (S36)))
  | 0, _, _, _, _ => none
  | k + 1, x0, x1, x5, x6 => if x6 < (x0.length : Int) then (if 0 ≤ x6 then ((spec_l5At.f k x1 ((rd_T36 x0 x6).f1)).bind fun t402 => (if t402 < 99999 then (if x5.length < 8796093022208 then (spec_l5Link.l0 k x0 x1 (x5 ++ [(⟨(rd_T36 x0 x6).f0, t402⟩ : S36)]) (wrap64 (x6 + 1))) else (none)) else (spec_l5Link.l0 k x0 x1 x5 (wrap64 (x6 + 1))))) else (none)) else ((spec_l5Tidy.f k x5).bind fun t407 => (some t407))
def spec_l5Link.f (k : Nat) (l0 : List (S36)) (l1 : List (S36)) : Option ((List (S36))) := spec_l5Link.l0 k l0 l1 (([] : List (S36))) 0
theorem spec_l5Link.mono_l : ∀ k, (∀ y0 y1 y2 y3, LeO (spec_l5Link.l0 k y0 y1 y2 y3) (spec_l5Link.l0 (k + 1) y0 y1 y2 y3))
  | 0 => fun _ _ _ _ r h => by simp [spec_l5Link.l0] at h
  | k + 1 => by
    have ih0 := spec_l5Link.mono_l k
    · intro y0 y1 y2 y3
      unfold spec_l5Link.l0
      repeat' first | (with_reducible first | exact ih0 _ _ _ _ | exact spec_l5At.mono _ _ _ | exact spec_l5Tidy.mono _ _ | exact LeO.refl _ | exact LeO.none _ | refine LeO.ite ?_ ?_ | refine LeO.bind ?_ (fun _ => ?_)) | exact ih0 _ _ _ _ | exact spec_l5At.mono _ _ _ | exact spec_l5Tidy.mono _ _ | exact LeO.none _ | refine LeO.ite ?_ ?_ | refine LeO.bind ?_ (fun _ => ?_)
theorem spec_l5Link.mono : ∀ a0 a1 k, LeO (spec_l5Link.f k a0 a1) (spec_l5Link.f (k + 1) a0 a1) := by
  intro a0 a1 k
  have ih0 := spec_l5Link.mono_l k
  unfold spec_l5Link.f
  repeat' first | (with_reducible first | exact ih0 _ _ _ _ | exact spec_l5At.mono _ _ _ | exact spec_l5Tidy.mono _ _ | exact LeO.refl _ | exact LeO.none _ | refine LeO.ite ?_ ?_ | refine LeO.bind ?_ (fun _ => ?_)) | exact ih0 _ _ _ _ | exact spec_l5At.mono _ _ _ | exact spec_l5Tidy.mono _ _ | exact LeO.none _ | refine LeO.ite ?_ ?_ | refine LeO.bind ?_ (fun _ => ?_)
set_option maxHeartbeats 200000000 in
set_option maxRecDepth 100000 in
theorem spec_l5Link.calls (k : Nat) (A0 : Option Addr) (c0 : Nat) (l0 : List (S36)) (A1 : Option Addr) (c1 : Nat) (l1 : List (S36)) (r : List (S36)) (w : World) (hr0 : Kd.C k36 w A0 l0.length l0) (hc0 : l0.length ≤ c0) (hr1 : Kd.C k36 w A1 l1.length l1) (hc1 : l1.length ≤ c1) (h : spec_l5Link.f k l0 l1 = some r) :
    Calls Try.prog 47 #[.slice A0 l0.length c0, .slice A1 l1.length c1] w fun e w' => ∃ v0_ : Value, e = .returned (v0_) ∧ Kd.R k36 36 w' w.heap.size (fun _ => True) v0_ r ∧ Below w.heap.size w w' := by
  have hu36 := Try.underlying36
  have HR0 := Aside0.mk hr0
  have HC0 := Aside0.mk hc0
  clear hr0 hc0
  have HR1 := Aside0.mk hr1
  have HC1 := Aside0.mk hc1
  clear hr1 hc1
  have HB := Aside0.mk (Below.refl w.heap.size w)
  have H : (spec_l5Link.l0 k l0 l1 (([] : List (S36))) 0) = some r := h
  clear h
  obtain ⟨y398, hy398⟩ : ∃ y_ : List (S36), y_ = (([] : List (S36))) := ⟨_, rfl⟩
  replace H : (spec_l5Link.l0 k l0 l1 y398 0) = some r := by first | (rw [hy398]; with_reducible exact H) | (have H2_ := (Option.bind_some _ _).symm.trans H; rw [hy398]; with_reducible exact H2_) | (have H2_ := (Option.bind_some _ _).symm.trans H; with_reducible exact H2_) | with_reducible exact H | (rw [hy398]; exact H) | exact H
  have Ny398 := Aside0.mk hy398
  clear hy398
  have H' := Aside0.mk H
  clear H
  go_enter Try.func47, Try.ntmps47
  go_wp2_with (first | ((with_reducible refine gate_dst (N := 8) rfl ?_); refine Kd.R_lit k36 _ 36 ?hg (N := 8) ?hd (xs := ([] : List (S36))) (inner := []) (ok := fun _ => True) (okp := fun _ => True) ?hr ?hp (fun _ hk => hk) trivial (Below.refl _ _) (Nat.le_refl _) (by simp) ?_; (case hd => rfl); (case hg => rfl); (case hr => first | (go_simp; done) | (go_simp; rfl)); (case hp => exact (Reps.none _ _)); intro v399 w3 ho4 hb hg_ hnew_; clear hg_ hnew_; (first | rw [← Ny398.out] at ho4 | (simp only [Int.reduceToNat] at ho4; rw [← Ny398.out] at ho4)); have HO400 := Aside0.mk (Kd.R_lower ho4 (below_size (ne_ HB.out))); replace HB := kB_ HB hb; clear hb ho4))
  go_loopg [5, 6] k (fun kq v5 v6 w' => ∃ (x5_1 : List (S36)) (x6_1 : Int), v6 = .int .i64 x6_1 ∧ Aside0 (spec_l5Link.l0 kq l0 l1 x5_1 x6_1 = some r) ∧ Aside0 (kq ≤ k) ∧ Aside0 (Kd.R k36 36 w' w.heap.size (fun _ => True) v5 x5_1) ∧ Aside0 (Below w.heap.size w w'))
  case atStart => exact ⟨(y398), (0), ns_, H', ⟨Nat.le_refl _⟩, ⟨nr_ HO400.out⟩, ⟨ne_ HB.out⟩⟩
  case round =>
   clear H'
   try clear c1
   obtain ⟨x5_1, x6_1, rfl, HA, HK1, HO_5, HB⟩ := hrel
   cases gk with
   | zero => exact absurd HA.out (by simp [spec_l5Link.l0])
   | succ k1 =>
    have H := HA.out
    clear HA
    simp only [spec_l5Link.l0] at H
    by_cases c5 : x6_1 < (l0.length : Int)
    rotate_left
    ·rw [if_neg c5] at H
     have c5b0 : decide (x6_1 < (l0.length : Int)) = false := decide_eq_false c5
     clear c5
     replace H := Option.bind_eq_some_iff.mp H
     obtain ⟨t407, A110, H⟩ := H
     replace H : (some t407) = some r := H
     have A11 := Aside0.mk A110
     clear A110
     obtain rfl := Option.some.inj H
     obtain ⟨Ao12, co12, eo12⟩ := Kd.R_slice HO_5.out
     subst eo12
     go_wp2_with (first | ((with_reducible refine gate_callee (f := 34) rfl ?_); refine gl_ (some 35) Try.func34 #[.slice Ao12 x5_1.length co12] ?_; (with_reducible refine (spec_l5Tidy.calls k1 _ _ x5_1 t407 _ ?side1 ?side2 A11.out).mono ?_); (case side1 => exact nc_ (Kd.R_reads' HO_5.out).2.2); (case side2 => exact (Kd.R_reads' HO_5.out).2.1); rintro e w13 ⟨v408, rfl, ho0, hb⟩; refine ⟨_, rfl, ?_⟩; have HO409 := Aside0.mk (Kd.R_lower (Kd.R_new' ho0 (Kd.R_lt (nr_ HO_5.out))) (below_size (ne_ HB.out))); replace HO_5 := Aside0.mk (Kd.R_elder' (nr_ HO_5.out) (Kd.R_base ho0) hb); replace HB := kB_ HB hb; (try clear hb); (try clear hb2); (try clear hk); (try clear hi); (try clear ho0)))
     go_ret
     exact ⟨_, nw_, by (with_reducible repeat (first | apply Kd.R_alloc | apply Kd.R_drewN | apply Kd.R_drew)); exact Kd.R_mono HO409.out (fun _ hk => trivial), ne_ HB.out⟩

    rw [if_pos c5] at H
    have c5b0 : decide (x6_1 < (l0.length : Int)) = true := decide_eq_true c5
    clear c5
    by_cases c6 : 0 ≤ x6_1
    rotate_left
    ·rw [if_neg c6] at H
     exact absurd H (by simp)
    rw [if_pos c6] at H
    have c6b0 : decide (0 ≤ x6_1) = true := decide_eq_true c6
    clear c6
    replace H := Option.bind_eq_some_iff.mp H
    obtain ⟨t402, A70, H⟩ := H
    try dsimp only at H
    have A7 := Aside0.mk A70
    clear A70
    by_cases c8 : t402 < 99999
    rotate_left
    ·rw [if_neg c8] at H
     have c8b0 : decide (t402 < 99999) = false := decide_eq_false c8
     clear c8
     have H' := Aside0.mk H
     clear H
     have p401 : 0 ≤ (x6_1 : Int) := of_decide_eq_true nx_
     have q401 : x6_1 < (l0.length : Int) := of_decide_eq_true nx_
     obtain ⟨ad401, e401, hx401_0, hx401_1⟩ := at_T36 HR0.out x6_1 p401 q401
     cases e401
     replace hx401_0 := hb_ HB.out hx401_0
     replace hx401_1 := hb_ HB.out hx401_1
     replace p401 := eq_true p401
     replace q401 := eq_true q401
     go_wp2_with (first | ((with_reducible refine gate_callee (f := 58) rfl ?_); refine gl_ (some 21) Try.func58 #[.slice A1 l1.length c1, .int .i64 ((rd_T36 l0 x6_1).f1)] ?_; (with_reducible refine (spec_l5At.calls k1 _ _ l1 ((rd_T36 l0 x6_1).f1) t402 _ ?side1 ?side2 A7.out).mono ?_); (case side1 => exact nc_ (Kd.C_below HR1.out HB.out)); (case side2 => exact HC1.out); rintro e w' ⟨rfl, ⟨nd, rfl⟩⟩; refine ⟨_, rfl, ?_⟩))
     go_roundg k1
     case measure => have := HK1.out; omega
     case rel => exact ⟨(x5_1), (wrap64 (x6_1 + 1)), ns_, H', ⟨by have := HK1.out; omega⟩, ⟨nr_ HO_5.out⟩, ⟨ne_ HB.out⟩⟩
    rw [if_pos c8] at H
    have c8b0 : decide (t402 < 99999) = true := decide_eq_true c8
    clear c8
    by_cases c9 : x5_1.length < 8796093022208
    rotate_left
    ·rw [if_neg c9] at H
     exact absurd H (by simp)
    rw [if_pos c9] at H
    have LMc9 := Aside0.mk c9
    clear c9
    obtain ⟨y404, hy404⟩ : ∃ y_ : List (S36), y_ = (x5_1 ++ [(⟨(rd_T36 l0 x6_1).f0, t402⟩ : S36)]) := ⟨_, rfl⟩
    replace H : (spec_l5Link.l0 k1 l0 l1 y404 (wrap64 (x6_1 + 1))) = some r := by first | (rw [hy404]; with_reducible exact H) | (have H2_ := (Option.bind_some _ _).symm.trans H; rw [hy404]; with_reducible exact H2_) | (have H2_ := (Option.bind_some _ _).symm.trans H; with_reducible exact H2_) | with_reducible exact H | (rw [hy404]; exact H) | exact H
    have Ny404 := Aside0.mk hy404
    clear hy404
    have H' := Aside0.mk H
    clear H
    have p401 : 0 ≤ (x6_1 : Int) := of_decide_eq_true nx_
    have q401 : x6_1 < (l0.length : Int) := of_decide_eq_true nx_
    obtain ⟨ad401, e401, hx401_0, hx401_1⟩ := at_T36 HR0.out x6_1 p401 q401
    cases e401
    replace hx401_0 := hb_ HB.out hx401_0
    replace hx401_1 := hb_ HB.out hx401_1
    replace p401 := eq_true p401
    replace q401 := eq_true q401
    go_wp2_with (first | ((with_reducible refine gate_callee (f := 58) rfl ?_); refine gl_ (some 21) Try.func58 #[.slice A1 l1.length c1, .int .i64 ((rd_T36 l0 x6_1).f1)] ?_; (with_reducible refine (spec_l5At.calls k1 _ _ l1 ((rd_T36 l0 x6_1).f1) t402 _ ?side1 ?side2 A7.out).mono ?_); (case side1 => exact nc_ (Kd.C_below HR1.out HB.out)); (case side2 => exact HC1.out); rintro e w' ⟨rfl, ⟨nd, rfl⟩⟩; refine ⟨_, rfl, ?_⟩; have p403 : 0 ≤ (x6_1 : Int) := of_decide_eq_true nx_; have q403 : x6_1 < (l0.length : Int) := of_decide_eq_true nx_; obtain ⟨ad403, e403, hx403_0, hx403_1⟩ := at_T36 HR0.out x6_1 p403 q403; obtain rfl : ad401 = ad403 := (by injection e403); replace hx403_0 := hb_ HB.out hx403_0; replace hx403_1 := hb_ HB.out hx403_1; replace p403 := eq_true p403; replace q403 := eq_true q403) | ((with_reducible refine gate_builtin (b := .append) (xs := #[.tmp 24, .tmp 32]) rfl ?_); at_builtin; refine Kd.R_append k36 (w0 := w) w.heap.size rfl (.tmp 24) (.tmp 32) 22 36 (.agg #[(.int .i64 0), (.int .i64 0)]) 16 rfl Try.underlying22 info36 rfl (by decide) (by omega) u5 x5_1 (⟨(rd_T36 l0 x6_1).f0, t402⟩ : S36) [.int .i64 ((rd_T36 l0 x6_1).f0), .int .i64 t402] (fun _ => True) (fun _ => False) rfl rfl ?aP (fun _ hk => hk.elim) ?aF ?aO ?aB ?aS ?aL ?_; (case aP => exact k36_mkM _ _ _ (⟨(rd_T36 l0 x6_1).f0, t402⟩ : S36)); (case aB => exact (ne_ HB.out)); (case aF => exact (fun _ _ => trivial)); (case aO => exact (nr_ HO_5.out)); (case aS => exact (below_size (ne_ HB.out))); (case aL => have := LMc9.out; omega); intro v405 w10 ho hb hg hat; rw [← Ny404.out] at ho; have HO406 := Aside0.mk (ho); replace HB := Aside0.mk (hb); clear HO_5; clear ho hb hg hat))
    go_roundg k1
    case measure => have := HK1.out; omega
    case rel => exact ⟨(y404), (wrap64 (x6_1 + 1)), ns_, H', ⟨by have := HK1.out; omega⟩, ⟨nr_ HO406.out⟩, ⟨ne_ HB.out⟩⟩
end Go.Proofs.Ytfpfaaibgaejjaa.Print
