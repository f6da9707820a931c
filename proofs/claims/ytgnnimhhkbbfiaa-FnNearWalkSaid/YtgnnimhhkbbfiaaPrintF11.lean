-- Made by this session's own program (wip/patch_print.py, over the kit's print). Lean checks it.
import Derived.Test.YtgnnimhhkbbfiaaPrint0
import Derived.Test.YtgnnimhhkbbfiaaPrintF20
import Derived.Test.YtgnnimhhkbbfiaaPrintF23
namespace Go.Proofs.Ytgnnimhhkbbfiaa.Print
open Go.RowKit Go.Proofs.YtgnnimhhkbbfiaaW.PrintWords Go.Proofs.YtgnnimhhkbbfiaaW.PrintLast Go.Proofs.YtgnnimhhkbbfiaaW.PrintMore Go.Proofs.YtgnnimhhkbbfiaaX
attribute [local go_sem] max2_int min2_int max_two min_two max_three min_three max_four min_four   -- for this text's walks alone
set_option linter.unusedVariables false
set_option linter.unusedSimpArgs false

/-! ### impl_WalkPlain: function 11 -/
mutual
def impl_WalkPlain.j0 : Nat → List Int → Bool → Int → List (S47) → Option (List Int)
  | 0, _, _, _, _ => none
  | k + 1, x1, x18, x398000, x398001 => if x18 = true then (some ([] : List Int)) else ((impl_Net_along.f k x398000 x398001 x1).bind fun t399 => (if 0 ≤ (x1.length : Int) then (if ((x1.length : Int) : Int).toNat ≤ 35184372088832 then (impl_WalkPlain.l0 k x1 t399 (([] : List Int)) 0) else (none)) else (none)))
def impl_WalkPlain.l0 : Nat → List Int → List Int → List Int → Int → Option (List Int)
  | 0, _, _, _, _ => none
  | k + 1, x1, x5, x6, x7 => impl_WalkPlain.l1 k x1 x5 x6 x7 x5 (x5.length : Int) 0
def impl_WalkPlain.l1 : Nat → List Int → List Int → List Int → Int → List Int → Int → Int → Option (List Int)
  | 0, _, _, _, _, _, _, _ => none
  | k + 1, x1, x5, x6, x7, x27, x28, x29 => if x29 < x28 then (if 0 ≤ x29 then (if x29 < (x27.length : Int) then (if 0 ≤ x7 then (if x7 < (x5.length : Int) then (if (rd x27 x29) = (rd x5 x7) then (impl_WalkPlain.l1 k x1 x5 x6 (mx x7 x29) x27 x28 (wrap64 (x29 + 1))) else (impl_WalkPlain.l1 k x1 x5 x6 x7 x27 x28 (wrap64 (x29 + 1)))) else (none)) else (none)) else (none)) else (none)) else (if x7 = (x1.length : Int) then (some (x6)) else (if 0 ≤ x7 then (if x7 < (x1.length : Int) then (if x6.length < 17592186044416 then (impl_WalkPlain.l0 k x1 x5 (x6 ++ [rd x1 x7]) (wrap64 (x7 + 1))) else (none)) else (none)) else (none)))
end
def impl_WalkPlain.f (k : Nat) (a0_0 : Int) (l0_1 : List (S47)) (l1 : List Int) : Option (List Int) := (impl_WalkOk.f k a0_0 l0_1 l1).bind fun t398 => (if t398 = true then (impl_WalkPlain.j0 k l1 ((l1.length : Int) == 0) a0_0 l0_1) else (impl_WalkPlain.j0 k l1 true a0_0 l0_1))
theorem impl_WalkPlain.mono_l : ∀ k, (∀ y0 y1 y2 y3, LeO (impl_WalkPlain.j0 k y0 y1 y2 y3) (impl_WalkPlain.j0 (k + 1) y0 y1 y2 y3)) ∧ (∀ y0 y1 y2 y3, LeO (impl_WalkPlain.l0 k y0 y1 y2 y3) (impl_WalkPlain.l0 (k + 1) y0 y1 y2 y3)) ∧ (∀ y0 y1 y2 y3 y4 y5 y6, LeO (impl_WalkPlain.l1 k y0 y1 y2 y3 y4 y5 y6) (impl_WalkPlain.l1 (k + 1) y0 y1 y2 y3 y4 y5 y6))
  | 0 => ⟨fun _ _ _ _ r h => by simp [impl_WalkPlain.j0] at h, fun _ _ _ _ r h => by simp [impl_WalkPlain.l0] at h, fun _ _ _ _ _ _ _ r h => by simp [impl_WalkPlain.l1] at h⟩
  | k + 1 => by
    obtain ⟨ih0, ih1, ih2⟩ := impl_WalkPlain.mono_l k
    refine ⟨?_, ?_, ?_⟩
    · intro y0 y1 y2 y3
      unfold impl_WalkPlain.j0
      repeat' first | (with_reducible first | exact ih0 _ _ _ _ | exact ih1 _ _ _ _ | exact ih2 _ _ _ _ _ _ _ | exact impl_Net_along.mono _ _ _ _ | exact impl_WalkOk.mono _ _ _ _ | exact LeO.refl _ | exact LeO.none _ | refine LeO.ite ?_ ?_ | refine LeO.bind ?_ (fun _ => ?_)) | exact ih0 _ _ _ _ | exact ih1 _ _ _ _ | exact ih2 _ _ _ _ _ _ _ | exact impl_Net_along.mono _ _ _ _ | exact impl_WalkOk.mono _ _ _ _ | exact LeO.none _ | refine LeO.ite ?_ ?_ | refine LeO.bind ?_ (fun _ => ?_)
    · intro y0 y1 y2 y3
      unfold impl_WalkPlain.l0
      repeat' first | (with_reducible first | exact ih0 _ _ _ _ | exact ih1 _ _ _ _ | exact ih2 _ _ _ _ _ _ _ | exact impl_Net_along.mono _ _ _ _ | exact impl_WalkOk.mono _ _ _ _ | exact LeO.refl _ | exact LeO.none _ | refine LeO.ite ?_ ?_ | refine LeO.bind ?_ (fun _ => ?_)) | exact ih0 _ _ _ _ | exact ih1 _ _ _ _ | exact ih2 _ _ _ _ _ _ _ | exact impl_Net_along.mono _ _ _ _ | exact impl_WalkOk.mono _ _ _ _ | exact LeO.none _ | refine LeO.ite ?_ ?_ | refine LeO.bind ?_ (fun _ => ?_)
    · intro y0 y1 y2 y3 y4 y5 y6
      unfold impl_WalkPlain.l1
      repeat' first | (with_reducible first | exact ih0 _ _ _ _ | exact ih1 _ _ _ _ | exact ih2 _ _ _ _ _ _ _ | exact impl_Net_along.mono _ _ _ _ | exact impl_WalkOk.mono _ _ _ _ | exact LeO.refl _ | exact LeO.none _ | refine LeO.ite ?_ ?_ | refine LeO.bind ?_ (fun _ => ?_)) | exact ih0 _ _ _ _ | exact ih1 _ _ _ _ | exact ih2 _ _ _ _ _ _ _ | exact impl_Net_along.mono _ _ _ _ | exact impl_WalkOk.mono _ _ _ _ | exact LeO.none _ | refine LeO.ite ?_ ?_ | refine LeO.bind ?_ (fun _ => ?_)
theorem impl_WalkPlain.mono : ∀ a0 a1 a2 k, LeO (impl_WalkPlain.f k a0 a1 a2) (impl_WalkPlain.f (k + 1) a0 a1 a2) := by
  intro a0 a1 a2 k
  obtain ⟨ih0, ih1, ih2⟩ := impl_WalkPlain.mono_l k
  unfold impl_WalkPlain.f
  repeat' first | (with_reducible first | exact ih0 _ _ _ _ | exact ih1 _ _ _ _ | exact ih2 _ _ _ _ _ _ _ | exact impl_Net_along.mono _ _ _ _ | exact impl_WalkOk.mono _ _ _ _ | exact LeO.refl _ | exact LeO.none _ | refine LeO.ite ?_ ?_ | refine LeO.bind ?_ (fun _ => ?_)) | exact ih0 _ _ _ _ | exact ih1 _ _ _ _ | exact ih2 _ _ _ _ _ _ _ | exact impl_Net_along.mono _ _ _ _ | exact impl_WalkOk.mono _ _ _ _ | exact LeO.none _ | refine LeO.ite ?_ ?_ | refine LeO.bind ?_ (fun _ => ?_)
set_option maxHeartbeats 200000000 in
set_option maxRecDepth 100000 in
theorem impl_WalkPlain.calls (k : Nat) (a0_0 : Int) (A0_1 : Option Addr) (c0_1 : Nat) (l0_1 : List (S47)) (A1 : Option Addr) (c1 : Nat) (l1 : List Int) (r : List Int) (w : World) (hr0_1 : Kd.C k47 w A0_1 l0_1.length l0_1) (hc0_1 : l0_1.length ≤ c0_1) (hr1 : Kd.C (Kd.int .i64) w A1 l1.length l1) (hc1 : l1.length ≤ c1) (h : impl_WalkPlain.f k a0_0 l0_1 l1 = some r) :
    Calls Try.prog 11 #[.agg #[.int .i64 a0_0, .slice A0_1 l0_1.length c0_1], .slice A1 l1.length c1] w fun e w' => ∃ v0_ : Value, e = .returned (v0_) ∧ Kd.R (Kd.int .i64) 3 w' w.heap.size (fun _ => True) v0_ r ∧ Below w.heap.size w w' := by
  have hu25 := Try.underlying25
  have HR0_1 := Aside0.mk hr0_1
  have HC0_1 := Aside0.mk hc0_1
  clear hr0_1 hc0_1
  have HR1 := Aside0.mk hr1
  have HC1 := Aside0.mk hc1
  clear hr1 hc1
  have HB := Aside0.mk (Below.refl w.heap.size w)
  have H : ((impl_WalkOk.f k a0_0 l0_1 l1).bind fun t398 => (if t398 = true then (impl_WalkPlain.j0 k l1 ((l1.length : Int) == 0) a0_0 l0_1) else (impl_WalkPlain.j0 k l1 true a0_0 l0_1))) = some r := h
  clear h
  have HC3 := Aside0.mk H
  clear H
  go_enter Try.func11, Try.ntmps11
  go_upto_region 1 with (first | ((with_reducible refine gate_dst (N := 2) rfl ?_); (try (refine gate_guard (by rfl) ?_; dsimp only)); refine bx_ 2 #[.int .i64 a0_0, .slice A0_1 l0_1.length c0_1] 25 ?_; intro gb397 hg w4 hbox hb; have BK397 := Aside0.mk (hbox); have GW397 := Aside0.mk (zs_ hg (ne_ HB.out)); have GE397 := Aside0.mk (zs_ hg (ne_ HB.out)); replace HB := kB_ HB hb; clear hb hbox hg))
  (try simp only [Act.put, List.setIfInBounds_toArray, List.set_cons_zero, List.set_cons_succ])
  go_cut [18] (fun v18 wc => ∃ (kq : Nat) (x18_2 : Bool), v18 = .bool x18_2 ∧ Aside0 (impl_WalkPlain.j0 kq l1 x18_2 a0_0 l0_1 = some r) ∧ Aside0 (kq ≤ k) ∧ Aside0 (wc.heap[gb397]? = some (.cells #[.int .i64 a0_0, (.slice A0_1 l0_1.length c0_1)] 25 (0, 0))) ∧ Aside0 (Below w.heap.size w wc))
  case first =>
   have H := HC3.out
   clear HC3
   replace H := Option.bind_eq_some_iff.mp H
   obtain ⟨t398, A50, H⟩ := H
   try dsimp only at H
   have A5 := Aside0.mk A50
   clear A50
   by_cases c6 : t398 = true
   ·subst c6
    have H1 : (impl_WalkPlain.j0 k l1 ((l1.length : Int) == 0) a0_0 l0_1) = some r := by rw [if_pos rfl] at H; exact H
    clear H
    have H := H1
    clear H1
    have H' := Aside0.mk H
    clear H
    obtain ⟨hcz7_0, hcz7_1, hfz7_0, hfz7_1⟩ := cz2_ BK397.out
    go_wp2_with (first | ((with_reducible refine gate_callee (f := 20) rfl ?_); refine gl_ (some 12) Try.func20 #[.agg #[.int .i64 a0_0, .slice A0_1 l0_1.length c0_1], .slice A1 l1.length c1] ?_; (with_reducible refine (impl_WalkOk.calls k a0_0 _ _ l0_1 _ _ l1 true _ ?side1 ?side2 ?side3 ?side4 A5.out).mono ?_); (case side1 => exact nc_ (Kd.C_below HR0_1.out HB.out)); (case side2 => exact HC0_1.out); (case side3 => exact nc_ (Kd.C_below HR1.out HB.out)); (case side4 => exact HC1.out); rintro e w8 ⟨rfl, hb⟩; refine ⟨_, rfl, ?_⟩; replace BK397 := kb_ BK397 hb; replace HB := kB_ HB hb; (try clear hb); (try clear hb2); (try clear hk); (try clear hi)))
    go_meet
    case rel => exact ⟨_, (((l1.length : Int) == 0)), ns_, H', ⟨by first | omega | exact Nat.le_refl _⟩, ⟨nb_ BK397.out⟩, ⟨ne_ HB.out⟩⟩
   replace c6 := Bool.eq_false_iff.mpr c6
   subst c6
   have H1 : (impl_WalkPlain.j0 k l1 true a0_0 l0_1) = some r := by rw [if_neg (show ¬ (false = true) by decide)] at H; exact H
   clear H
   have H := H1
   clear H1
   have H' := Aside0.mk H
   clear H
   obtain ⟨hcz9_0, hcz9_1, hfz9_0, hfz9_1⟩ := cz2_ BK397.out
   go_wp2_with (first | ((with_reducible refine gate_callee (f := 20) rfl ?_); refine gl_ (some 12) Try.func20 #[.agg #[.int .i64 a0_0, .slice A0_1 l0_1.length c0_1], .slice A1 l1.length c1] ?_; (with_reducible refine (impl_WalkOk.calls k a0_0 _ _ l0_1 _ _ l1 false _ ?side1 ?side2 ?side3 ?side4 A5.out).mono ?_); (case side1 => exact nc_ (Kd.C_below HR0_1.out HB.out)); (case side2 => exact HC0_1.out); (case side3 => exact nc_ (Kd.C_below HR1.out HB.out)); (case side4 => exact HC1.out); rintro e w10 ⟨rfl, hb⟩; refine ⟨_, rfl, ?_⟩; replace BK397 := kb_ BK397 hb; replace HB := kB_ HB hb; (try clear hb); (try clear hb2); (try clear hk); (try clear hi)))
   go_meet
   case rel => exact ⟨_, (true), ns_, H', ⟨by first | omega | exact Nat.le_refl _⟩, ⟨nb_ BK397.out⟩, ⟨ne_ HB.out⟩⟩
  case rest =>
   clear HC3
   try clear c1
   obtain ⟨kq, x18_2, rfl, HA, HJ2, BK397, HB⟩ := hcut
   cases kq with
   | zero => exact absurd HA.out (by simp [impl_WalkPlain.j0])
   | succ kj2 =>
    have H := HA.out
    clear HA
    simp only [impl_WalkPlain.j0] at H
    by_cases c11 : x18_2 = true
    ·subst c11
     have H1 : (some ([] : List Int)) = some r := by rw [if_pos rfl] at H; exact H
     clear H
     have H := H1
     clear H1
     obtain rfl := Option.some.inj H
     go_wp2
     go_ret
     exact ⟨_, nw_, by first | exact Kd.R_nil _ _ _ _ _ | exact Kd.N_nil _ _ _ _ _ | exact Kd.V_nil _ _ _ _ _ | exact Kd.Q_nil _ _ _ _ _ | exact Kd.S_nil _ _ _ _ _, ne_ HB.out⟩
    replace c11 := Bool.eq_false_iff.mpr c11
    subst c11
    have H1 : ((impl_Net_along.f kj2 a0_0 l0_1 l1).bind fun t399 => (if 0 ≤ (l1.length : Int) then (if ((l1.length : Int) : Int).toNat ≤ 35184372088832 then (impl_WalkPlain.l0 kj2 l1 t399 (([] : List Int)) 0) else (none)) else (none))) = some r := by rw [if_neg (show ¬ (false = true) by decide)] at H; exact H
    clear H
    have H := H1
    clear H1
    replace H := Option.bind_eq_some_iff.mp H
    obtain ⟨t399, A120, H⟩ := H
    try dsimp only at H
    have A12 := Aside0.mk A120
    clear A120
    by_cases c13 : 0 ≤ (l1.length : Int)
    rotate_left
    ·rw [if_neg c13] at H
     exact absurd H (by simp)

    rw [if_pos c13] at H
    have c13b0 := eq_true c13
    have c13b1 : decide (0 ≤ (l1.length : Int)) = true := decide_eq_true c13
    clear c13
    by_cases c14 : ((l1.length : Int) : Int).toNat ≤ 35184372088832
    rotate_left
    ·rw [if_neg c14] at H
     exact absurd H (by simp)
    rw [if_pos c14] at H
    have c14b0 := eq_true c14
    have c14b1 : decide (((l1.length : Int) : Int).toNat ≤ 35184372088832) = true := decide_eq_true c14
    clear c14
    obtain ⟨y402, hy402⟩ : ∃ y_ : List Int, y_ = (([] : List Int)) := ⟨_, rfl⟩
    replace H : (impl_WalkPlain.l0 kj2 l1 t399 y402 0) = some r := by first | (rw [hy402]; with_reducible exact H) | (have H2_ := (Option.bind_some _ _).symm.trans H; rw [hy402]; with_reducible exact H2_) | (have H2_ := (Option.bind_some _ _).symm.trans H; with_reducible exact H2_) | with_reducible exact H | (rw [hy402]; exact H) | exact H
    have Ny402 := Aside0.mk hy402
    clear hy402
    have H' := Aside0.mk H
    clear H
    obtain ⟨hcz15_0, hcz15_1, hfz15_0, hfz15_1⟩ := cz2_ BK397.out
    go_wp2_with (first | ((with_reducible refine gate_callee (f := 23) rfl ?_); refine gl_ (some 21) Try.func23 #[.agg #[.int .i64 a0_0, .slice A0_1 l0_1.length c0_1], .slice A1 l1.length c1] ?_; (with_reducible refine (impl_Net_along.calls kj2 a0_0 _ _ l0_1 _ _ l1 t399 _ ?side1 ?side2 ?side3 ?side4 A12.out).mono ?_); (case side1 => exact nc_ (Kd.C_below HR0_1.out HB.out)); (case side2 => exact HC0_1.out); (case side3 => exact nc_ (Kd.C_below HR1.out HB.out)); (case side4 => exact HC1.out); rintro e w16 ⟨v400, rfl, ho0, hb⟩; refine ⟨_, rfl, ?_⟩; have HO401 := Aside0.mk (Kd.R_lower ho0 (below_size (ne_ HB.out))); replace BK397 := kb_ BK397 hb; replace HB := kB_ HB hb; (try clear hb); (try clear hb2); (try clear hk); (try clear hi); (try clear ho0)) | ((with_reducible refine gate_dst (N := 24) rfl ?_); (try (refine gate_guard (by rfl) ?_; dsimp only)); refine Go.Proofs.YtgnnimhhkbbfiaaX.Kd.R_make0 (Kd.int .i64) _ 3 rfl (N := 24) rfl 28 _ _ rfl (l1.length : Int) rfl rfl Try.underlying28 (.int .i64 0) 8 info3 (by omega) (ok := fun _ => True) trivial (of_decide_eq_true nx_) (Nat.le_trans (Nat.mul_le_mul_right _ (of_decide_eq_true nx_ : ((l1.length : Int) : Int).toNat ≤ 35184372088832)) (by omega)) (Below.refl _ _) (Nat.le_refl _) ?_; intro v403 w17 ho18 hb hg_ hnew_; clear hg_ hnew_; (first | rw [← Ny402.out] at ho18 | (simp only [Int.reduceToNat] at ho18; rw [← Ny402.out] at ho18)); have HO404 := Aside0.mk (Kd.R_lower (Kd.R_new' ho18 (Kd.R_lt (nr_ HO401.out))) (below_size (ne_ HB.out))); replace HO401 := Aside0.mk (Kd.R_elder' (nr_ HO401.out) (Kd.R_base ho18) hb); replace BK397 := kb_ BK397 hb; replace HB := kB_ HB hb; clear hb ho18))
    go_loopg [6, 7] kj2 (fun kq v6 v7 w' => ∃ (x6_2 : List Int) (x7_2 : Int), v7 = .int .i64 x7_2 ∧ Aside0 (impl_WalkPlain.l0 kq l1 t399 x6_2 x7_2 = some r) ∧ Aside0 (kq ≤ kj2) ∧ Aside0 (Kd.R (Kd.int .i64) 3 w' w.heap.size (fun k_ => some k_ ≠ (v6 : Value).ownBlock) v400 t399) ∧ Aside0 (Kd.R (Kd.int .i64) 3 w' w.heap.size (fun k_ => some k_ ≠ (v400 : Value).ownBlock) v6 x6_2) ∧ Aside0 (w'.heap[gb397]? = some (.cells #[.int .i64 a0_0, (.slice A0_1 l0_1.length c0_1)] 25 (0, 0))) ∧ Aside0 (Below w.heap.size w w'))
    case atStart => exact ⟨(y402), (0), ns_, H', ⟨Nat.le_refl _⟩, ⟨by (with_reducible repeat (first | apply Kd.R_alloc | apply Kd.R_drewN | apply Kd.R_drew)); exact Kd.R_mono HO401.out (fun _ hk => by first | exact hk.2 | trivial | simp_all)⟩, ⟨by (with_reducible repeat (first | apply Kd.R_alloc | apply Kd.R_drewN | apply Kd.R_drew)); exact Kd.R_mono HO404.out (fun _ hk => by first | exact hk.2 | trivial | simp_all)⟩, ⟨nb_ BK397.out⟩, ⟨ne_ HB.out⟩⟩
    case round =>
     clear H'
     try clear c1
     try clear c11
     try clear c13
     try clear c13b0
     try clear c13b1
     try clear c14
     try clear c14b0
     try clear c14b1
     try clear hcz15_0
     try clear hcz15_1
     try clear hfz15_0
     try clear hfz15_1
     obtain ⟨x6_2, x7_2, rfl, HA, HK2, HO_5, HO_6, BK397, HB⟩ := hrel
     cases gk with
     | zero => exact absurd HA.out (by simp [impl_WalkPlain.l0])
     | succ k2 =>
      have H := HA.out
      clear HA
      simp only [impl_WalkPlain.l0] at H
      have H' := Aside0.mk H
      clear H
      obtain ⟨Ao19, co19, eo19⟩ := Kd.R_slice HO_5.out
      subst eo19
      go_wp2
      go_loopg [7, 29] k2 (fun kq v7 v29 w' => ∃ (x7_3 : Int) (x29_3 : Int), v7 = .int .i64 x7_3 ∧ v29 = .int .i64 x29_3 ∧ Aside0 (impl_WalkPlain.l1 kq l1 t399 x6_2 x7_3 t399 (t399.length : Int) x29_3 = some r) ∧ Aside0 (kq ≤ k2) ∧ Aside0 (Kd.R (Kd.int .i64) 3 w' w.heap.size (fun k_ => some k_ ≠ (u6 : Value).ownBlock) (.slice Ao19 t399.length co19) t399) ∧ Aside0 (Kd.R (Kd.int .i64) 3 w' w.heap.size (fun k_ => some k_ ≠ ((.slice Ao19 t399.length co19) : Value).ownBlock ∧ some k_ ≠ ((.slice Ao19 t399.length co19) : Value).ownBlock) u6 x6_2) ∧ Aside0 (Kd.R (Kd.int .i64) 3 w' w.heap.size (fun k_ => some k_ ≠ (u6 : Value).ownBlock) (.slice Ao19 t399.length co19) t399) ∧ Aside0 (w'.heap[gb397]? = some (.cells #[.int .i64 a0_0, (.slice A0_1 l0_1.length c0_1)] 25 (0, 0))) ∧ Aside0 (Below w.heap.size w w'))
      case atStart => exact ⟨(x7_2), (0), ns_, ns_, H', ⟨Nat.le_refl _⟩, ⟨nr_ HO_5.out⟩, ⟨by (with_reducible repeat (first | apply Kd.R_alloc | apply Kd.R_drewN | apply Kd.R_drew)); exact Kd.R_mono HO_6.out (fun _ hk => by first | exact ⟨hk, hk⟩ | trivial | simp_all)⟩, ⟨nr_ HO_5.out⟩, ⟨nb_ BK397.out⟩, ⟨ne_ HB.out⟩⟩
      case round =>
       clear H'
       try clear c1
       try clear c11
       try clear c13
       try clear c13b0
       try clear c13b1
       try clear c14
       try clear c14b0
       try clear c14b1
       try clear hcz15_0
       try clear hcz15_1
       try clear hfz15_0
       try clear hfz15_1
       obtain ⟨x7_3, x29_3, rfl, rfl, HA, HK3, HO_5, HO_6, HO_27, BK397, HB⟩ := hrel
       cases gk with
       | zero => exact absurd HA.out (by simp [impl_WalkPlain.l1])
       | succ k3 =>
        have H := HA.out
        clear HA
        simp only [impl_WalkPlain.l1] at H
        by_cases c20 : x29_3 < (t399.length : Int)
        ·rw [if_pos c20] at H
         have c20b0 : decide (x29_3 < (t399.length : Int)) = true := decide_eq_true c20
         clear c20
         by_cases c21 : 0 ≤ x29_3
         rotate_left
         ·rw [if_neg c21] at H
          exact absurd H (by simp)
         rw [if_pos c21] at H
         have c21b0 : decide (0 ≤ x29_3) = true := decide_eq_true c21
         clear c21
         by_cases c22 : x29_3 < (t399.length : Int)
         rotate_left
         ·rw [if_neg c22] at H
          exact absurd H (by simp)
         rw [if_pos c22] at H
         have c22b0 : decide (x29_3 < (t399.length : Int)) = true := decide_eq_true c22
         clear c22
         by_cases c23 : 0 ≤ x7_3
         rotate_left
         ·rw [if_neg c23] at H
          exact absurd H (by simp)
         rw [if_pos c23] at H
         have c23b0 : decide (0 ≤ x7_3) = true := decide_eq_true c23
         clear c23
         by_cases c24 : x7_3 < (t399.length : Int)
         rotate_left
         ·rw [if_neg c24] at H
          exact absurd H (by simp)
         rw [if_pos c24] at H
         have c24b0 : decide (x7_3 < (t399.length : Int)) = true := decide_eq_true c24
         clear c24
         by_cases c25 : (rd t399 x29_3) = (rd t399 x7_3)
         rotate_left
         ·rw [if_neg c25] at H
          have c25b0 : ((rd t399 x29_3) == (rd t399 x7_3)) = false := beq_eq_false_iff_ne.mpr c25
          have c25b1 : ((rd t399 x29_3) != (rd t399 x7_3)) = true := bne_iff_ne.mpr c25
          have H' := Aside0.mk H
          clear H
          have p405 : 0 ≤ (x29_3 : Int) := of_decide_eq_true nx_
          have q405 : x29_3 < (t399.length : Int) := of_decide_eq_true nx_
          obtain ⟨ad405, e405, hx405_0⟩ := Kd.at_int (Kd.R_reads' HO_27.out).2.2 x29_3 p405 q405
          cases e405
          replace p405 := eq_true p405
          replace q405 := eq_true q405
          have p406 : 0 ≤ (x7_3 : Int) := of_decide_eq_true nx_
          have q406 : x7_3 < (t399.length : Int) := of_decide_eq_true nx_
          obtain ⟨ad406, e406, hx406_0⟩ := Kd.at_int (Kd.R_reads' HO_5.out).2.2 x7_3 p406 q406
          obtain rfl : ad405 = ad406 := (by injection e406)
          replace p406 := eq_true p406
          replace q406 := eq_true q406
          go_wp2
          go_roundg k3
          case measure => have := HJ2.out; have := HK2.out; have := HK3.out; omega
          case rel => exact ⟨(x7_3), (wrap64 (x29_3 + 1)), ns_, ns_, H', ⟨by have := HJ2.out; have := HK2.out; have := HK3.out; omega⟩, ⟨nr_ HO_5.out⟩, ⟨nr_ HO_6.out⟩, ⟨nr_ HO_27.out⟩, ⟨nb_ BK397.out⟩, ⟨ne_ HB.out⟩⟩
         rw [if_pos c25] at H
         have c25b0 : ((rd t399 x29_3) == (rd t399 x7_3)) = true := beq_iff_eq.mpr c25
         have c25b1 : ((rd t399 x29_3) != (rd t399 x7_3)) = false := bne_eq_false_iff_eq.mpr c25
         clear c25
         obtain ⟨ji26, hji26⟩ : ∃ j_ : Int, (mx x7_3 x29_3) = j_ := ⟨_, rfl⟩
         replace H : (impl_WalkPlain.l1 k3 l1 t399 x6_2 ji26 t399 (t399.length : Int) (wrap64 (x29_3 + 1))) = some r := by first | (rw [hji26] at H; exact H) | (simp only [hji26] at H ⊢; exact H)
         have hji26_ : (if x7_3 < x29_3 then x29_3 else x7_3) = ji26 := hji26
         have H' := Aside0.mk H
         clear H
         have p405 : 0 ≤ (x29_3 : Int) := of_decide_eq_true nx_
         have q405 : x29_3 < (t399.length : Int) := of_decide_eq_true nx_
         obtain ⟨ad405, e405, hx405_0⟩ := Kd.at_int (Kd.R_reads' HO_27.out).2.2 x29_3 p405 q405
         cases e405
         replace p405 := eq_true p405
         replace q405 := eq_true q405
         have p406 : 0 ≤ (x7_3 : Int) := of_decide_eq_true nx_
         have q406 : x7_3 < (t399.length : Int) := of_decide_eq_true nx_
         obtain ⟨ad406, e406, hx406_0⟩ := Kd.at_int (Kd.R_reads' HO_5.out).2.2 x7_3 p406 q406
         obtain rfl : ad405 = ad406 := (by injection e406)
         replace p406 := eq_true p406
         replace q406 := eq_true q406
         go_wp2
         go_roundg k3
         case measure => have := HJ2.out; have := HK2.out; have := HK3.out; omega
         case rel => exact ⟨(ji26), (wrap64 (x29_3 + 1)), (by first | rfl | (simp; done) | (simp only [← hji26] <;> (first | rfl | simp)) | (simp [*]; done) | (simp [*]; exact Option.some.inj (Eq.trans (Eq.symm (Aside0.out (by assumption))) (Aside0.out (by assumption))))), ns_, H', ⟨by have := HJ2.out; have := HK2.out; have := HK3.out; omega⟩, ⟨nr_ HO_5.out⟩, ⟨nr_ HO_6.out⟩, ⟨nr_ HO_27.out⟩, ⟨nb_ BK397.out⟩, ⟨ne_ HB.out⟩⟩
        rw [if_neg c20] at H
        have c20b0 : decide (x29_3 < (t399.length : Int)) = false := decide_eq_false c20
        clear c20
        by_cases c27 : x7_3 = (l1.length : Int)
        ·rw [if_pos c27] at H
         have c27b0 : (x7_3 == (l1.length : Int)) = true := beq_iff_eq.mpr c27
         have c27b1 : (x7_3 != (l1.length : Int)) = false := bne_eq_false_iff_eq.mpr c27
         clear c27
         obtain ⟨y407, hy407⟩ : ∃ y_ : List Int, y_ = (x6_2) := ⟨_, rfl⟩
         replace H : (some y407) = some r := by first | (rw [hy407]; with_reducible exact H) | (have H2_ := (Option.bind_some _ _).symm.trans H; rw [hy407]; with_reducible exact H2_) | (have H2_ := (Option.bind_some _ _).symm.trans H; with_reducible exact H2_) | with_reducible exact H | (rw [hy407]; exact H) | exact H
         have Ny407 := Aside0.mk hy407
         clear hy407
         obtain rfl := Option.some.inj H
         obtain ⟨Ao28, co28, eo28⟩ := Kd.R_slice HO_6.out
         subst eo28
         obtain ⟨i029, hi029, _, hsz29, _⟩ := info_parts info3
         have hy29 : y407.length = x6_2.length := (by rw [Ny407.out])
         have hcut29 : ∀ W : World, (Instr.slice 28 (.slice Ao28 x6_2.length co28) none (some (.int .i64 (x6_2.length : Int))) (some (.int .i64 (x6_2.length : Int)))).run Try.prog W = .ok (.slice Ao28 y407.length y407.length) W := (by rw [hy29]; exact Go.Proofs.YtgnnimhhkbbfiaaX.clip_run (P := Try.prog) 28 3 Try.underlying28 hi029 Ao28 x6_2.length co28 (Kd.R_reads' HO_6.out).2.1)
         have hr29 := Go.Proofs.YtgnnimhhkbbfiaaX.Kd.R_clip HO_6.out rfl
         rw [show x6_2 = y407 from Ny407.out.symm] at hr29
         clear hy29 hi029 hsz29 HO_6
         have HO409 := Aside0.mk hr29
         clear hr29
         go_wp2
         go_ret
         exact ⟨_, nw_, by (with_reducible repeat (first | apply Kd.R_alloc | apply Kd.R_drewN | apply Kd.R_drew)); exact Kd.R_mono HO409.out (fun _ hk => trivial), ne_ HB.out⟩
        rw [if_neg c27] at H
        have c27b0 : (x7_3 == (l1.length : Int)) = false := beq_eq_false_iff_ne.mpr c27
        have c27b1 : (x7_3 != (l1.length : Int)) = true := bne_iff_ne.mpr c27
        by_cases c30 : 0 ≤ x7_3
        rotate_left
        ·rw [if_neg c30] at H
         exact absurd H (by simp)
        rw [if_pos c30] at H
        have c30b0 : decide (0 ≤ x7_3) = true := decide_eq_true c30
        clear c30
        by_cases c31 : x7_3 < (l1.length : Int)
        rotate_left
        ·rw [if_neg c31] at H
         exact absurd H (by simp)
        rw [if_pos c31] at H
        have c31b0 : decide (x7_3 < (l1.length : Int)) = true := decide_eq_true c31
        clear c31
        by_cases c32 : x6_2.length < 17592186044416
        rotate_left
        ·rw [if_neg c32] at H
         exact absurd H (by simp)
        rw [if_pos c32] at H
        have LMc32 := Aside0.mk c32
        clear c32
        obtain ⟨y411, hy411⟩ : ∃ y_ : List Int, y_ = (x6_2 ++ [rd l1 x7_3]) := ⟨_, rfl⟩
        replace H : (impl_WalkPlain.l0 k3 l1 t399 y411 (wrap64 (x7_3 + 1))) = some r := by first | (rw [hy411]; with_reducible exact H) | (have H2_ := (Option.bind_some _ _).symm.trans H; rw [hy411]; with_reducible exact H2_) | (have H2_ := (Option.bind_some _ _).symm.trans H; with_reducible exact H2_) | with_reducible exact H | (rw [hy411]; exact H) | exact H
        have Ny411 := Aside0.mk hy411
        clear hy411
        have H' := Aside0.mk H
        clear H
        have p410 : 0 ≤ (x7_3 : Int) := of_decide_eq_true nx_
        have q410 : x7_3 < (l1.length : Int) := of_decide_eq_true nx_
        obtain ⟨ad410, e410, hx410_0⟩ := Kd.at_int HR1.out x7_3 p410 q410
        cases e410
        replace hx410_0 := hb_ HB.out hx410_0
        replace p410 := eq_true p410
        replace q410 := eq_true q410
        go_wp2_with (first | ((with_reducible refine gate_builtin (b := .append) (xs := #[.tmp 54, .tmp 59]) rfl ?_); (try (refine gate_guard (by rfl) ?_; dsimp only)); at_builtin; refine Kd.R_append (Kd.int .i64) (w0 := w) w.heap.size rfl (.tmp 54) (.tmp 59) 28 3 (.int .i64 0) 8 rfl Try.underlying28 info3 rfl (by decide) (by omega) u6 x6_2 (rd l1 x7_3) [.int .i64 (rd l1 x7_3)] (fun k_ => some k_ ≠ (.slice Ao19 t399.length co19 : Value).ownBlock ∧ some k_ ≠ (.slice Ao19 t399.length co19 : Value).ownBlock) (fun _ => False) rfl rfl ?aP (fun _ hk => hk.elim) ?aF ?aO ?aB ?aS ?aL ?_; (case aP => exact rfl); (case aB => exact (ne_ HB.out)); (case aF => exact (fun k_ hk => ⟨Kd.fresh' (Kd.R_lt (nr_ HO_5.out)) k_ hk, Kd.fresh' (Kd.R_lt (nr_ HO_27.out)) k_ hk⟩)); (case aO => exact (nr_ HO_6.out)); (case aS => exact (below_size (ne_ HB.out))); (case aL => have := LMc32.out; omega); intro v412 w33 ho hb hg hat; rw [← Ny411.out] at ho; have HO413 := Aside0.mk (ho); replace HO_5 := Aside0.mk (Kd.R_after (ok := (fun _ => True)) (by (with_reducible repeat (first | apply Kd.R_alloc | apply Kd.R_drewN | apply Kd.R_drew)); exact Kd.R_mono HO_5.out (fun _ hk => by first | exact ⟨trivial, hk⟩ | trivial | simp_all)) hg hat); replace HO_27 := Aside0.mk (Kd.R_after (ok := (fun _ => True)) (by (with_reducible repeat (first | apply Kd.R_alloc | apply Kd.R_drewN | apply Kd.R_drew)); exact Kd.R_mono HO_27.out (fun _ hk => by first | exact ⟨trivial, hk⟩ | trivial | simp_all)) hg hat); replace BK397 := Aside0.mk (blk_grown (g := gb397) (o := .cells #[.int .i64 a0_0, .slice A0_1 l0_1.length c0_1] 25 (0, 0)) (nb_ BK397.out) hg (Kd.R_ne HO_6.out BK397.out (by decide))); replace HB := Aside0.mk (hb); clear HO_6; clear ho hb hg hat))
        go_roundg k3
        case measure => have := HJ2.out; have := HK2.out; have := HK3.out; omega
        case rel => exact ⟨(y411), (wrap64 (x7_3 + 1)), ns_, H', ⟨by have := HJ2.out; have := HK2.out; have := HK3.out; omega⟩, ⟨by (with_reducible repeat (first | apply Kd.R_alloc | apply Kd.R_drewN | apply Kd.R_drew)); exact Kd.R_mono HO_5.out (fun _ hk => by first | exact hk.2 | trivial | simp_all)⟩, ⟨by (with_reducible repeat (first | apply Kd.R_alloc | apply Kd.R_drewN | apply Kd.R_drew)); exact Kd.R_mono HO413.out (fun _ hk => hk.1)⟩, ⟨nb_ BK397.out⟩, ⟨ne_ HB.out⟩⟩
end Go.Proofs.Ytgnnimhhkbbfiaa.Print
