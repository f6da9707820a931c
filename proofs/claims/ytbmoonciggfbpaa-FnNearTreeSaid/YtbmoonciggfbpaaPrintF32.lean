-- Made by this session's own program (wip/patch_print.py, over the kit's print). Lean checks it.
import Derived.Test.YtbmoonciggfbpaaPrint0
import Derived.Test.YtbmoonciggfbpaaPrintF38
import Derived.Test.YtbmoonciggfbpaaPrintF44
import Derived.Test.YtbmoonciggfbpaaPrintF57
namespace Go.Proofs.Ytbmoonciggfbpaa.Print
open Go.RowKit Go.Proofs.YtbmoonciggfbpaaW.PrintWords Go.Proofs.YtbmoonciggfbpaaW.PrintLast Go.Proofs.YtbmoonciggfbpaaW.PrintMore Go.Proofs.YtbmoonciggfbpaaX
attribute [local go_sem] max2_int min2_int max_two min_two max_three min_three max_four min_four   -- for this text's walks alone
set_option linter.unusedVariables false
set_option linter.unusedSimpArgs false

/-! ### impl_NearTree: function 32 -/
def impl_NearTree.l0 : Nat → Int → List (S72) → List Int → Int → Int → Int → List (S33) → Option (List Int)
  | 0, _, _, _, _, _, _, _ => none
  | k + 1, x1, x5, x6, x21, x22, x670000, x670001 => if x22 < x21 then (if x22 = x1 then (if x6.length < 17592186044416 then (impl_NearTree.l0 k x1 x5 (x6 ++ [(-1)]) x21 (wrap64 (x22 + 1)) x670000 x670001) else (none)) else (if 0 ≤ x22 then (if x22 < (x5.length : Int) then (if ((rd_T72 x5 x22).f0) = 99999 then (if x6.length < 17592186044416 then (impl_NearTree.l0 k x1 x5 (x6 ++ [(-1)]) x21 (wrap64 (x22 + 1)) x670000 x670001) else (none)) else ((impl_Net_firstArc.f x670000 x670001 x5 x22).bind fun t687 => (if x6.length < 17592186044416 then (impl_NearTree.l0 k x1 x5 (x6 ++ [t687]) x21 (wrap64 (x22 + 1)) x670000 x670001) else (none)))) else (none)) else (none))) else (some x6)
def impl_NearTree.f (k : Nat) (a0_0 : Int) (l0_1 : List (S33)) (a1 : Int) : Option (List Int) := (impl_nodesIn.f a0_0 l0_1 (([a1] : List Int))).bind fun t673 => (if t673 = true then ((impl_Net_toward.f k a0_0 l0_1 a1).bind fun t674 => (if 0 ≤ a0_0 then (if (a0_0 : Int).toNat ≤ 35184372088832 then (impl_NearTree.l0 k a1 t674 (([] : List Int)) a0_0 0 a0_0 l0_1) else (none)) else (none))) else (some ([] : List Int)))
theorem impl_NearTree.mono_l : ∀ k, (∀ y0 y1 y2 y3 y4 y5 y6, LeO (impl_NearTree.l0 k y0 y1 y2 y3 y4 y5 y6) (impl_NearTree.l0 (k + 1) y0 y1 y2 y3 y4 y5 y6))
  | 0 => fun _ _ _ _ _ _ _ r h => by simp [impl_NearTree.l0] at h
  | k + 1 => by
    have ih0 := impl_NearTree.mono_l k
    · intro y0 y1 y2 y3 y4 y5 y6
      unfold impl_NearTree.l0
      repeat' first | (with_reducible first | exact ih0 _ _ _ _ _ _ _ | exact impl_Net_toward.mono _ _ _ _ | exact LeO.refl _ | exact LeO.none _ | refine LeO.ite ?_ ?_ | refine LeO.bind ?_ (fun _ => ?_)) | exact ih0 _ _ _ _ _ _ _ | exact impl_Net_toward.mono _ _ _ _ | exact LeO.none _ | refine LeO.ite ?_ ?_ | refine LeO.bind ?_ (fun _ => ?_)
theorem impl_NearTree.mono : ∀ a0 a1 a2 k, LeO (impl_NearTree.f k a0 a1 a2) (impl_NearTree.f (k + 1) a0 a1 a2) := by
  intro a0 a1 a2 k
  have ih0 := impl_NearTree.mono_l k
  unfold impl_NearTree.f
  repeat' first | (with_reducible first | exact ih0 _ _ _ _ _ _ _ | exact impl_Net_toward.mono _ _ _ _ | exact LeO.refl _ | exact LeO.none _ | refine LeO.ite ?_ ?_ | refine LeO.bind ?_ (fun _ => ?_)) | exact ih0 _ _ _ _ _ _ _ | exact impl_Net_toward.mono _ _ _ _ | exact LeO.none _ | refine LeO.ite ?_ ?_ | refine LeO.bind ?_ (fun _ => ?_)
set_option maxHeartbeats 200000000 in
set_option maxRecDepth 100000 in
theorem impl_NearTree.calls (k : Nat) (a0_0 : Int) (A0_1 : Option Addr) (c0_1 : Nat) (l0_1 : List (S33)) (a1 : Int) (r : List Int) (w : World) (hr0_1 : Kd.C k33 w A0_1 l0_1.length l0_1) (hc0_1 : l0_1.length ≤ c0_1) (h : impl_NearTree.f k a0_0 l0_1 a1 = some r) :
    Calls Try.prog 32 #[.agg #[.int .i64 a0_0, .slice A0_1 l0_1.length c0_1], .int .i64 a1] w fun e w' => ∃ v0_ : Value, e = .returned (v0_) ∧ Kd.R (Kd.int .i64) 3 w' w.heap.size (fun _ => True) v0_ r ∧ Below w.heap.size w w' := by
  have hu25 := Try.underlying25
  have HR0_1 := Aside0.mk hr0_1
  have HC0_1 := Aside0.mk hc0_1
  clear hr0_1 hc0_1
  have HB := Aside0.mk (Below.refl w.heap.size w)
  have H : ((impl_nodesIn.f a0_0 l0_1 (([a1] : List Int))).bind fun t673 => (if t673 = true then ((impl_Net_toward.f k a0_0 l0_1 a1).bind fun t674 => (if 0 ≤ a0_0 then (if (a0_0 : Int).toNat ≤ 35184372088832 then (impl_NearTree.l0 k a1 t674 (([] : List Int)) a0_0 0 a0_0 l0_1) else (none)) else (none))) else (some ([] : List Int)))) = some r := h
  clear h
  obtain ⟨y670, hy670⟩ : ∃ y_ : List Int, y_ = (([a1] : List Int)) := ⟨_, rfl⟩
  replace H : ((impl_nodesIn.f a0_0 l0_1 y670).bind fun t673 => (if t673 = true then ((impl_Net_toward.f k a0_0 l0_1 a1).bind fun t674 => (if 0 ≤ a0_0 then (if (a0_0 : Int).toNat ≤ 35184372088832 then (impl_NearTree.l0 k a1 t674 (([] : List Int)) a0_0 0 a0_0 l0_1) else (none)) else (none))) else (some ([] : List Int)))) = some r := by first | (rw [hy670]; with_reducible exact H) | (have H2_ := (Option.bind_some _ _).symm.trans H; rw [hy670]; with_reducible exact H2_) | (have H2_ := (Option.bind_some _ _).symm.trans H; with_reducible exact H2_) | with_reducible exact H | (rw [hy670]; exact H) | exact H
  have Ny670 := Aside0.mk hy670
  clear hy670
  replace H := Option.bind_eq_some_iff.mp H
  obtain ⟨t673, A30, H⟩ := H
  replace H : (if t673 = true then ((impl_Net_toward.f k a0_0 l0_1 a1).bind fun t674 => (if 0 ≤ a0_0 then (if (a0_0 : Int).toNat ≤ 35184372088832 then (impl_NearTree.l0 k a1 t674 (([] : List Int)) a0_0 0 a0_0 l0_1) else (none)) else (none))) else (some ([] : List Int))) = some r := H
  have A3 := Aside0.mk A30
  clear A30
  by_cases c4 : t673 = true
  rotate_left
  ·replace c4 := Bool.eq_false_iff.mpr c4
   subst c4
   have H1 : (some ([] : List Int)) = some r := by rw [if_neg (show ¬ (false = true) by decide)] at H; exact H
   clear H
   have H := H1
   clear H1
   obtain rfl := Option.some.inj H
   go_enter Try.func32, Try.ntmps32
   go_wp2_with (first | ((with_reducible refine gate_dst (N := 2) rfl ?_); refine bx_ 2 #[.int .i64 a0_0, .slice A0_1 l0_1.length c0_1] 25 ?_; intro gb669 hg w36 hbox hb; have BK669 := Aside0.mk (hbox); have GW669 := Aside0.mk (zs_ hg (ne_ HB.out)); have GE669 := Aside0.mk (zs_ hg (ne_ HB.out)); replace HB := kB_ HB hb; clear hb hbox hg; obtain ⟨hcz37_0, hcz37_1, hfz37_0, hfz37_1⟩ := cz2_ BK669.out) | ((with_reducible refine gate_dst (N := 11) rfl ?_); refine Kd.R_lit (Kd.int .i64) _ 3 ?hg (N := 11) ?hd (xs := ([a1] : List Int)) (inner := [.int .i64 a1]) (ok := fun _ => True) (okp := fun _ => True) ?hr ?hp (fun _ hk => hk) trivial (Below.refl _ _) (Nat.le_refl _) (by simp) ?_; (case hd => rfl); (case hg => rfl); (case hr => first | (go_simp; done) | (go_simp; rfl)); (case hp => exact (Reps.one (show Kd.M (Kd.int .i64) _ _ _ a1 [.int .i64 a1] from rfl) (Reps.none _ _))); intro v671 w38 ho39 hb hg_ hnew_; clear hg_ hnew_; (first | rw [← Ny670.out] at ho39 | (simp only [Int.reduceToNat] at ho39; rw [← Ny670.out] at ho39)); have HO672 := Aside0.mk (Kd.R_lower ho39 (below_size (ne_ HB.out))); replace BK669 := kb_ BK669 hb; replace HB := kB_ HB hb; clear hb ho39; obtain ⟨Ao40, co40, eo40⟩ := Kd.R_slice HO672.out; subst eo40) | ((with_reducible refine gate_callee (f := 38) rfl ?_); refine gl_ (some 12) Try.func38 #[.agg #[.int .i64 a0_0, .slice A0_1 l0_1.length c0_1], .slice Ao40 y670.length co40] ?_; (with_reducible refine (impl_nodesIn.calls a0_0 _ _ l0_1 _ _ y670 false _ ?side1 ?side2 ?side3 ?side4 A3.out).mono ?_); (case side1 => exact nc_ (Kd.C_below HR0_1.out HB.out)); (case side2 => exact HC0_1.out); (case side3 => exact nc_ (Kd.R_reads' HO672.out).2.2); (case side4 => exact (Kd.R_reads' HO672.out).2.1); rintro e w41 ⟨rfl, hb⟩; refine ⟨_, rfl, ?_⟩; replace HO672 := kR_ HO672 hb; replace BK669 := kb_ BK669 hb; replace HB := kB_ HB hb; (try clear hb); (try clear hb2); (try clear hk); (try clear hi)))
   go_ret
   exact ⟨_, nw_, by first | exact Kd.R_nil _ _ _ _ _ | exact Kd.N_nil _ _ _ _ _ | exact Kd.V_nil _ _ _ _ _ | exact Kd.Q_nil _ _ _ _ _ | exact Kd.S_nil _ _ _ _ _, ne_ HB.out⟩

  subst c4
  have H1 : ((impl_Net_toward.f k a0_0 l0_1 a1).bind fun t674 => (if 0 ≤ a0_0 then (if (a0_0 : Int).toNat ≤ 35184372088832 then (impl_NearTree.l0 k a1 t674 (([] : List Int)) a0_0 0 a0_0 l0_1) else (none)) else (none))) = some r := by rw [if_pos rfl] at H; exact H
  clear H
  have H := H1
  clear H1
  replace H := Option.bind_eq_some_iff.mp H
  obtain ⟨t674, A50, H⟩ := H
  replace H : (if 0 ≤ a0_0 then (if (a0_0 : Int).toNat ≤ 35184372088832 then (impl_NearTree.l0 k a1 t674 (([] : List Int)) a0_0 0 a0_0 l0_1) else (none)) else (none)) = some r := H
  have A5 := Aside0.mk A50
  clear A50
  by_cases c6 : 0 ≤ a0_0
  rotate_left
  ·rw [if_neg c6] at H
   exact absurd H (by simp)
  rw [if_pos c6] at H
  have c6b0 := eq_true c6
  have c6b1 : decide (0 ≤ a0_0) = true := decide_eq_true c6
  clear c6
  by_cases c7 : (a0_0 : Int).toNat ≤ 35184372088832
  rotate_left
  ·rw [if_neg c7] at H
   exact absurd H (by simp)
  rw [if_pos c7] at H
  have c7b0 := eq_true c7
  have c7b1 : decide ((a0_0 : Int).toNat ≤ 35184372088832) = true := decide_eq_true c7
  clear c7
  obtain ⟨y677, hy677⟩ : ∃ y_ : List Int, y_ = (([] : List Int)) := ⟨_, rfl⟩
  replace H : (impl_NearTree.l0 k a1 t674 y677 a0_0 0 a0_0 l0_1) = some r := by first | (rw [hy677]; with_reducible exact H) | (have H2_ := (Option.bind_some _ _).symm.trans H; rw [hy677]; with_reducible exact H2_) | (have H2_ := (Option.bind_some _ _).symm.trans H; with_reducible exact H2_) | with_reducible exact H | (rw [hy677]; exact H) | exact H
  have Ny677 := Aside0.mk hy677
  clear hy677
  have H' := Aside0.mk H
  clear H
  go_enter Try.func32, Try.ntmps32
  go_wp2_with (first | ((with_reducible refine gate_dst (N := 2) rfl ?_); refine bx_ 2 #[.int .i64 a0_0, .slice A0_1 l0_1.length c0_1] 25 ?_; intro gb669 hg w8 hbox hb; have BK669 := Aside0.mk (hbox); have GW669 := Aside0.mk (zs_ hg (ne_ HB.out)); have GE669 := Aside0.mk (zs_ hg (ne_ HB.out)); replace HB := kB_ HB hb; clear hb hbox hg; obtain ⟨hcz9_0, hcz9_1, hfz9_0, hfz9_1⟩ := cz2_ BK669.out) | ((with_reducible refine gate_dst (N := 11) rfl ?_); refine Kd.R_lit (Kd.int .i64) _ 3 ?hg (N := 11) ?hd (xs := ([a1] : List Int)) (inner := [.int .i64 a1]) (ok := fun _ => True) (okp := fun _ => True) ?hr ?hp (fun _ hk => hk) trivial (Below.refl _ _) (Nat.le_refl _) (by simp) ?_; (case hd => rfl); (case hg => rfl); (case hr => first | (go_simp; done) | (go_simp; rfl)); (case hp => exact (Reps.one (show Kd.M (Kd.int .i64) _ _ _ a1 [.int .i64 a1] from rfl) (Reps.none _ _))); intro v671 w10 ho11 hb hg_ hnew_; clear hg_ hnew_; (first | rw [← Ny670.out] at ho11 | (simp only [Int.reduceToNat] at ho11; rw [← Ny670.out] at ho11)); have HO672 := Aside0.mk (Kd.R_lower ho11 (below_size (ne_ HB.out))); replace BK669 := kb_ BK669 hb; replace HB := kB_ HB hb; clear hb ho11; obtain ⟨Ao12, co12, eo12⟩ := Kd.R_slice HO672.out; subst eo12) | ((with_reducible refine gate_callee (f := 38) rfl ?_); refine gl_ (some 12) Try.func38 #[.agg #[.int .i64 a0_0, .slice A0_1 l0_1.length c0_1], .slice Ao12 y670.length co12] ?_; (with_reducible refine (impl_nodesIn.calls a0_0 _ _ l0_1 _ _ y670 true _ ?side1 ?side2 ?side3 ?side4 A3.out).mono ?_); (case side1 => exact nc_ (Kd.C_below HR0_1.out HB.out)); (case side2 => exact HC0_1.out); (case side3 => exact nc_ (Kd.R_reads' HO672.out).2.2); (case side4 => exact (Kd.R_reads' HO672.out).2.1); rintro e w13 ⟨rfl, hb⟩; refine ⟨_, rfl, ?_⟩; replace HO672 := kR_ HO672 hb; replace BK669 := kb_ BK669 hb; replace HB := kB_ HB hb; (try clear hb); (try clear hb2); (try clear hk); (try clear hi); obtain ⟨hcz14_0, hcz14_1, hfz14_0, hfz14_1⟩ := cz2_ BK669.out) | ((with_reducible refine gate_callee (f := 44) rfl ?_); refine gl_ (some 16) Try.func44 #[.agg #[.int .i64 a0_0, .slice A0_1 l0_1.length c0_1], .int .i64 a1] ?_; (with_reducible refine (impl_Net_toward.calls k a0_0 _ _ l0_1 a1 t674 _ ?side1 ?side2 A5.out).mono ?_); (case side1 => exact nc_ (Kd.C_below HR0_1.out HB.out)); (case side2 => exact HC0_1.out); rintro e w15 ⟨v675, rfl, ho0, hb⟩; refine ⟨_, rfl, ?_⟩; have HO676 := Aside0.mk (Kd.R_lower ho0 (below_size (ne_ HB.out))); replace HO672 := kR_ HO672 hb; replace BK669 := kb_ BK669 hb; replace HB := kB_ HB hb; (try clear hb); (try clear hb2); (try clear hk); (try clear hi); (try clear ho0); obtain ⟨hcz16_0, hcz16_1, hfz16_0, hfz16_1⟩ := cz2_ BK669.out) | ((with_reducible refine gate_dst (N := 19) rfl ?_); refine Go.Proofs.YtbmoonciggfbpaaX.Kd.R_make0 (Kd.int .i64) _ 3 rfl (N := 19) rfl 28 _ _ rfl a0_0 rfl rfl Try.underlying28 (.int .i64 0) 8 info3 (by omega) (ok := fun _ => True) trivial (of_decide_eq_true nx_) (Nat.le_trans (Nat.mul_le_mul_right _ (of_decide_eq_true nx_ : (a0_0 : Int).toNat ≤ 35184372088832)) (by omega)) (Below.refl _ _) (Nat.le_refl _) ?_; intro v678 w17 ho18 hb hg_ hnew_; clear hg_ hnew_; (first | rw [← Ny677.out] at ho18 | (simp only [Int.reduceToNat] at ho18; rw [← Ny677.out] at ho18)); have HO679 := Aside0.mk (Kd.R_lower (Kd.R_new' ho18 (Kd.R_lt (nr_ HO672.out))) (below_size (ne_ HB.out))); replace HO672 := Aside0.mk (Kd.R_elder' (nr_ HO672.out) (Kd.R_base ho18) hb); replace HO676 := kR_ HO676 hb; replace BK669 := kb_ BK669 hb; replace HB := kB_ HB hb; clear hb ho18; obtain ⟨hcz19_0, hcz19_1, hfz19_0, hfz19_1⟩ := cz2_ BK669.out))
  go_loopg [6, 22] k (fun kq v6 v22 w' => ∃ (x6_1 : List Int) (x22_1 : Int), v22 = .int .i64 x22_1 ∧ Aside0 (impl_NearTree.l0 kq a1 t674 x6_1 a0_0 x22_1 a0_0 l0_1 = some r) ∧ Aside0 (kq ≤ k) ∧ Aside0 (Kd.R k72 72 w' w.heap.size (fun _ => True) v675 t674) ∧ Aside0 (Kd.R (Kd.int .i64) 3 w' w.heap.size (fun _ => True) v6 x6_1) ∧ Aside0 (w'.heap[gb669]? = some (.cells #[.int .i64 a0_0, (.slice A0_1 l0_1.length c0_1)] 25 (0, 0))) ∧ Aside0 (Below w.heap.size w w'))
  case atStart => exact ⟨(y677), (0), ns_, H', ⟨Nat.le_refl _⟩, ⟨nr_ HO676.out⟩, ⟨by (with_reducible repeat (first | apply Kd.R_alloc | apply Kd.R_drewN | apply Kd.R_drew)); exact Kd.R_mono HO679.out (fun _ hk => trivial)⟩, ⟨nb_ BK669.out⟩, ⟨ne_ HB.out⟩⟩
  case round =>
   clear H'
   try clear p2
   try clear c3
   try clear c4
   try clear c6
   try clear c6b0
   try clear c6b1
   try clear c7
   try clear c7b0
   try clear c7b1
   try clear hcz14_0
   try clear hcz14_1
   try clear hcz16_0
   try clear hcz16_1
   try clear hcz19_0
   try clear hcz19_1
   try clear hcz9_0
   try clear hcz9_1
   try clear hfz14_0
   try clear hfz14_1
   try clear hfz16_0
   try clear hfz16_1
   try clear hfz19_0
   try clear hfz19_1
   try clear hfz9_0
   try clear hfz9_1
   obtain ⟨x6_1, x22_1, rfl, HA, HK1, HO_5, HO_6, BK669, HB⟩ := hrel
   cases gk with
   | zero => exact absurd HA.out (by simp [impl_NearTree.l0])
   | succ k1 =>
    have H := HA.out
    clear HA
    simp only [impl_NearTree.l0] at H
    by_cases c20 : x22_1 < a0_0
    rotate_left
    ·rw [if_neg c20] at H
     have c20b0 : decide (x22_1 < a0_0) = false := decide_eq_false c20
     clear c20
     obtain rfl := Option.some.inj H
     go_wp2
     go_ret
     exact ⟨_, nw_, nr_ HO_6.out, ne_ HB.out⟩
    rw [if_pos c20] at H
    have c20b0 : decide (x22_1 < a0_0) = true := decide_eq_true c20
    clear c20
    by_cases c21 : x22_1 = a1
    ·rw [if_pos c21] at H
     have c21b0 : (x22_1 == a1) = true := beq_iff_eq.mpr c21
     have c21b1 : (x22_1 != a1) = false := bne_eq_false_iff_eq.mpr c21
     clear c21
     by_cases c22 : x6_1.length < 17592186044416
     rotate_left
     ·rw [if_neg c22] at H
      exact absurd H (by simp)
     rw [if_pos c22] at H
     have LMc22 := Aside0.mk c22
     clear c22
     obtain ⟨y680, hy680⟩ : ∃ y_ : List Int, y_ = (x6_1 ++ [(-1)]) := ⟨_, rfl⟩
     replace H : (impl_NearTree.l0 k1 a1 t674 y680 a0_0 (wrap64 (x22_1 + 1)) a0_0 l0_1) = some r := by first | (rw [hy680]; with_reducible exact H) | (have H2_ := (Option.bind_some _ _).symm.trans H; rw [hy680]; with_reducible exact H2_) | (have H2_ := (Option.bind_some _ _).symm.trans H; with_reducible exact H2_) | with_reducible exact H | (rw [hy680]; exact H) | exact H
     have Ny680 := Aside0.mk hy680
     clear hy680
     have H' := Aside0.mk H
     clear H
     go_wp2_with (first | ((with_reducible refine gate_builtin (b := .append) (xs := #[.tmp 40, .tmp 42]) rfl ?_); at_builtin; refine Kd.R_append (Kd.int .i64) (w0 := w) w.heap.size rfl (.tmp 40) (.tmp 42) 28 3 (.int .i64 0) 8 rfl Try.underlying28 info3 rfl (by decide) (by omega) u6 x6_1 (-1) [.int .i64 (-1)] (fun _ => True) (fun _ => False) rfl rfl ?aP (fun _ hk => hk.elim) ?aF ?aO ?aB ?aS ?aL ?_; (case aP => exact rfl); (case aB => exact (ne_ HB.out)); (case aF => exact (fun _ _ => trivial)); (case aO => exact (nr_ HO_6.out)); (case aS => exact (below_size (ne_ HB.out))); (case aL => have := LMc22.out; omega); intro v681 w23 ho hb hg hat; rw [← Ny680.out] at ho; have HO682 := Aside0.mk (ho); replace HO_5 := Aside0.mk (Kd.R_over' (nr_ HO_5.out) (Kd.R_typed (nr_ HO_6.out)) (by decide) hg); replace BK669 := Aside0.mk (blk_grown (g := gb669) (o := .cells #[.int .i64 a0_0, .slice A0_1 l0_1.length c0_1] 25 (0, 0)) (nb_ BK669.out) hg (Kd.R_ne HO_6.out BK669.out (by decide))); replace HB := Aside0.mk (hb); clear HO_6; clear ho hb hg hat))
     go_roundg k1
     case measure => have := HK1.out; omega
     case rel => exact ⟨(y680), (wrap64 (x22_1 + 1)), ns_, H', ⟨by have := HK1.out; omega⟩, ⟨nr_ HO_5.out⟩, ⟨nr_ HO682.out⟩, ⟨nb_ BK669.out⟩, ⟨ne_ HB.out⟩⟩
    rw [if_neg c21] at H
    have c21b0 : (x22_1 == a1) = false := beq_eq_false_iff_ne.mpr c21
    have c21b1 : (x22_1 != a1) = true := bne_iff_ne.mpr c21
    by_cases c24 : 0 ≤ x22_1
    rotate_left
    ·rw [if_neg c24] at H
     exact absurd H (by simp)
    rw [if_pos c24] at H
    have c24b0 : decide (0 ≤ x22_1) = true := decide_eq_true c24
    clear c24
    by_cases c25 : x22_1 < (t674.length : Int)
    rotate_left
    ·rw [if_neg c25] at H
     exact absurd H (by simp)
    rw [if_pos c25] at H
    have c25b0 : decide (x22_1 < (t674.length : Int)) = true := decide_eq_true c25
    clear c25
    by_cases c26 : ((rd_T72 t674 x22_1).f0) = 99999
    ·rw [if_pos c26] at H
     have c26b0 : (((rd_T72 t674 x22_1).f0) == 99999) = true := beq_iff_eq.mpr c26
     have c26b1 : (((rd_T72 t674 x22_1).f0) != 99999) = false := bne_eq_false_iff_eq.mpr c26
     clear c26
     by_cases c27 : x6_1.length < 17592186044416
     rotate_left
     ·rw [if_neg c27] at H
      exact absurd H (by simp)
     rw [if_pos c27] at H
     have LMc27 := Aside0.mk c27
     clear c27
     obtain ⟨y684, hy684⟩ : ∃ y_ : List Int, y_ = (x6_1 ++ [(-1)]) := ⟨_, rfl⟩
     replace H : (impl_NearTree.l0 k1 a1 t674 y684 a0_0 (wrap64 (x22_1 + 1)) a0_0 l0_1) = some r := by first | (rw [hy684]; with_reducible exact H) | (have H2_ := (Option.bind_some _ _).symm.trans H; rw [hy684]; with_reducible exact H2_) | (have H2_ := (Option.bind_some _ _).symm.trans H; with_reducible exact H2_) | with_reducible exact H | (rw [hy684]; exact H) | exact H
     have Ny684 := Aside0.mk hy684
     clear hy684
     have H' := Aside0.mk H
     clear H
     obtain ⟨Ao28, co28, eo28⟩ := Kd.R_slice HO_5.out
     subst eo28
     have p683 : 0 ≤ (x22_1 : Int) := of_decide_eq_true nx_
     have q683 : x22_1 < (t674.length : Int) := of_decide_eq_true nx_
     obtain ⟨ad683, e683, hx683_0, hx683_1⟩ := at_T72 (Kd.R_reads' HO_5.out).2.2 x22_1 p683 q683
     cases e683
     replace p683 := eq_true p683
     replace q683 := eq_true q683
     go_wp2_with (first | ((with_reducible refine gate_builtin (b := .append) (xs := #[.tmp 40, .tmp 42]) rfl ?_); at_builtin; refine Kd.R_append (Kd.int .i64) (w0 := w) w.heap.size rfl (.tmp 40) (.tmp 42) 28 3 (.int .i64 0) 8 rfl Try.underlying28 info3 rfl (by decide) (by omega) u6 x6_1 (-1) [.int .i64 (-1)] (fun _ => True) (fun _ => False) rfl rfl ?aP (fun _ hk => hk.elim) ?aF ?aO ?aB ?aS ?aL ?_; (case aP => exact rfl); (case aB => exact (ne_ HB.out)); (case aF => exact (fun _ _ => trivial)); (case aO => exact (nr_ HO_6.out)); (case aS => exact (below_size (ne_ HB.out))); (case aL => have := LMc27.out; omega); intro v685 w29 ho hb hg hat; rw [← Ny684.out] at ho; have HO686 := Aside0.mk (ho); replace HO_5 := Aside0.mk (Kd.R_over' (nr_ HO_5.out) (Kd.R_typed (nr_ HO_6.out)) (by decide) hg); replace BK669 := Aside0.mk (blk_grown (g := gb669) (o := .cells #[.int .i64 a0_0, .slice A0_1 l0_1.length c0_1] 25 (0, 0)) (nb_ BK669.out) hg (Kd.R_ne HO_6.out BK669.out (by decide))); replace HB := Aside0.mk (hb); clear HO_6; clear ho hb hg hat))
     go_roundg k1
     case measure => have := HK1.out; omega
     case rel => exact ⟨(y684), (wrap64 (x22_1 + 1)), ns_, H', ⟨by have := HK1.out; omega⟩, ⟨nr_ HO_5.out⟩, ⟨nr_ HO686.out⟩, ⟨nb_ BK669.out⟩, ⟨ne_ HB.out⟩⟩
    rw [if_neg c26] at H
    have c26b0 : (((rd_T72 t674 x22_1).f0) == 99999) = false := beq_eq_false_iff_ne.mpr c26
    have c26b1 : (((rd_T72 t674 x22_1).f0) != 99999) = true := bne_iff_ne.mpr c26
    replace H := Option.bind_eq_some_iff.mp H
    obtain ⟨t687, A300, H⟩ := H
    replace H : (if x6_1.length < 17592186044416 then (impl_NearTree.l0 k1 a1 t674 (x6_1 ++ [t687]) a0_0 (wrap64 (x22_1 + 1)) a0_0 l0_1) else (none)) = some r := H
    have A30 := Aside0.mk A300
    clear A300
    by_cases c31 : x6_1.length < 17592186044416
    rotate_left
    ·rw [if_neg c31] at H
     exact absurd H (by simp)
    rw [if_pos c31] at H
    have LMc31 := Aside0.mk c31
    clear c31
    obtain ⟨y688, hy688⟩ : ∃ y_ : List Int, y_ = (x6_1 ++ [t687]) := ⟨_, rfl⟩
    replace H : (impl_NearTree.l0 k1 a1 t674 y688 a0_0 (wrap64 (x22_1 + 1)) a0_0 l0_1) = some r := by first | (rw [hy688]; with_reducible exact H) | (have H2_ := (Option.bind_some _ _).symm.trans H; rw [hy688]; with_reducible exact H2_) | (have H2_ := (Option.bind_some _ _).symm.trans H; with_reducible exact H2_) | with_reducible exact H | (rw [hy688]; exact H) | exact H
    have Ny688 := Aside0.mk hy688
    clear hy688
    have H' := Aside0.mk H
    clear H
    obtain ⟨Ao32, co32, eo32⟩ := Kd.R_slice HO_5.out
    subst eo32
    have p683 : 0 ≤ (x22_1 : Int) := of_decide_eq_true nx_
    have q683 : x22_1 < (t674.length : Int) := of_decide_eq_true nx_
    obtain ⟨ad683, e683, hx683_0, hx683_1⟩ := at_T72 (Kd.R_reads' HO_5.out).2.2 x22_1 p683 q683
    cases e683
    replace p683 := eq_true p683
    replace q683 := eq_true q683
    obtain ⟨hcz33_0, hcz33_1, hfz33_0, hfz33_1⟩ := cz2_ BK669.out
    go_wp2_with (first | ((with_reducible refine gate_callee (f := 57) rfl ?_); refine gl_ (some 39) Try.func57 #[.agg #[.int .i64 a0_0, .slice A0_1 l0_1.length c0_1], .slice (some ad683) t674.length co32, .int .i64 x22_1] ?_; (with_reducible refine (impl_Net_firstArc.calls a0_0 _ _ l0_1 _ _ t674 x22_1 t687 _ ?side1 ?side2 ?side3 ?side4 A30.out).mono ?_); (case side1 => exact nc_ (Kd.C_below HR0_1.out HB.out)); (case side2 => exact HC0_1.out); (case side3 => exact nc_ (Kd.R_reads' HO_5.out).2.2); (case side4 => exact (Kd.R_reads' HO_5.out).2.1); rintro e w34 ⟨rfl, hb⟩; refine ⟨_, rfl, ?_⟩; replace HO_5 := kR_ HO_5 hb; replace HO_6 := kR_ HO_6 hb; replace BK669 := kb_ BK669 hb; replace HB := kB_ HB hb; (try clear hb); (try clear hb2); (try clear hk); (try clear hi)) | ((with_reducible refine gate_builtin (b := .append) (xs := #[.tmp 40, .tmp 42]) rfl ?_); at_builtin; refine Kd.R_append (Kd.int .i64) (w0 := w) w.heap.size rfl (.tmp 40) (.tmp 42) 28 3 (.int .i64 0) 8 rfl Try.underlying28 info3 rfl (by decide) (by omega) u6 x6_1 t687 [.int .i64 t687] (fun _ => True) (fun _ => False) rfl rfl ?aP (fun _ hk => hk.elim) ?aF ?aO ?aB ?aS ?aL ?_; (case aP => exact rfl); (case aB => exact (ne_ HB.out)); (case aF => exact (fun _ _ => trivial)); (case aO => exact (nr_ HO_6.out)); (case aS => exact (below_size (ne_ HB.out))); (case aL => have := LMc31.out; omega); intro v689 w35 ho hb hg hat; rw [← Ny688.out] at ho; have HO690 := Aside0.mk (ho); replace HO_5 := Aside0.mk (Kd.R_over' (nr_ HO_5.out) (Kd.R_typed (nr_ HO_6.out)) (by decide) hg); replace BK669 := Aside0.mk (blk_grown (g := gb669) (o := .cells #[.int .i64 a0_0, .slice A0_1 l0_1.length c0_1] 25 (0, 0)) (nb_ BK669.out) hg (Kd.R_ne HO_6.out BK669.out (by decide))); replace HB := Aside0.mk (hb); clear HO_6; clear ho hb hg hat))
    go_roundg k1
    case measure => have := HK1.out; omega
    case rel => exact ⟨(y688), (wrap64 (x22_1 + 1)), ns_, H', ⟨by have := HK1.out; omega⟩, ⟨nr_ HO_5.out⟩, ⟨nr_ HO690.out⟩, ⟨nb_ BK669.out⟩, ⟨ne_ HB.out⟩⟩
end Go.Proofs.Ytbmoonciggfbpaa.Print
