-- Made by this session's own program (wip/patch_print.py, over the kit's print). Lean checks it.
import Derived.Test.YtfijdkjibjdbiaaPrint0
import Derived.Test.YtfijdkjibjdbiaaPrintB
import Derived.Test.YtfijdkjibjdbiaaPrintF45
namespace Go.Proofs.Ytfijdkjibjdbiaa.Print
open Go.RowKit Go.Proofs.YtfijdkjibjdbiaaW.PrintWords Go.Proofs.YtfijdkjibjdbiaaW.PrintLast Go.Proofs.YtfijdkjibjdbiaaW.PrintMore Go.Proofs.YtfijdkjibjdbiaaX
attribute [local go_sem] max2_int min2_int max_two min_two max_three min_three max_four min_four   -- for this text's walks alone
set_option linter.unusedVariables false
set_option linter.unusedSimpArgs false

theorem nf39_ {p q : Prop} (h : p) (e : p → q := by intro h_; first | (rw [add_block]; exact h_) | (show (Addr.add _ _).block ≠ _; rw [add_block]; exact h_) | exact h_) : q := e h
theorem cf39_ {w : World} {q : Addr} {g : Nat} (h : q.block ≠ g) (a b c d e : Value) : (((((w.setCell ⟨g, 0, none⟩ a).setCell ⟨g, 1, none⟩ b).setCell ⟨g, 2, none⟩ c).setCell ⟨g, 3, none⟩ d).setCell ⟨g, 4, none⟩ e).cell? q = w.cell? q := (cell_far (p := ⟨g, 4, none⟩) h e).trans ((cell_far (p := ⟨g, 3, none⟩) h d).trans ((cell_far (p := ⟨g, 2, none⟩) h c).trans ((cell_far (p := ⟨g, 1, none⟩) h b).trans (cell_far (p := ⟨g, 0, none⟩) h a))))
attribute [local go_sem ↓] Go.Proofs.YtfijdkjibjdbiaaX.isSome_set
/-! ### impl_Net_toward: function 39 -/
mutual
def impl_Net_toward.l0 : Nat → List (S81) → Bool → Int → List (S36) → Option ((List (S81)))
  | 0, _, _, _, _ => none
  | k + 1, x5, x6, x344000, x344001 => if x6 = true then (impl_Net_toward.l1 k x5 false x344001 (x344001.length : Int) 0 x344000 x344001) else (some x5)
def impl_Net_toward.l1 : Nat → List (S81) → Bool → List (S36) → Int → Int → Int → List (S36) → Option ((List (S81)))
  | 0, _, _, _, _, _, _, _ => none
  | k + 1, x5, x6, x21, x22, x23, x344000, x344001 => if x23 < x22 then (if 0 ≤ x23 then (if x23 < (x21.length : Int) then (if 0 ≤ ((rd_T36 x21 x23).f1) then (if ((rd_T36 x21 x23).f1) < (x5.length : Int) then (if ((rd_T81 x5 ((rd_T36 x21 x23).f1)).f0) = 99999 then (impl_Net_toward.l1 k x5 x6 x21 x22 (wrap64 (x23 + 1)) x344000 x344001) else (if 0 ≤ ((rd_T36 x21 x23).f0) then (if ((rd_T36 x21 x23).f0) < (x5.length : Int) then ((impl_measure_less.f (wrap64 (((rd_T81 x5 ((rd_T36 x21 x23).f1)).f0) + ((rd_T36 x21 x23).f2))) (wrap64 (((rd_T81 x5 ((rd_T36 x21 x23).f1)).f1) + 1)) ((rd_T81 x5 ((rd_T36 x21 x23).f0)).f0) ((rd_T81 x5 ((rd_T36 x21 x23).f0)).f1)).bind fun t356 => (if t356 = true then (impl_Net_toward.l1 k (x5.set (((rd_T36 x21 x23).f0) : Int).toNat (⟨wrap64 (((rd_T81 x5 ((rd_T36 x21 x23).f1)).f0) + ((rd_T36 x21 x23).f2)), wrap64 (((rd_T81 x5 ((rd_T36 x21 x23).f1)).f1) + 1)⟩ : S81)) true x21 x22 (wrap64 (x23 + 1)) x344000 x344001) else (impl_Net_toward.l1 k x5 x6 x21 x22 (wrap64 (x23 + 1)) x344000 x344001))) else (none)) else (none))) else (none)) else (none)) else (none)) else (none)) else (impl_Net_toward.l0 k x5 x6 x344000 x344001)
end
def impl_Net_toward.f (k : Nat) (a0_0 : Int) (l0_1 : List (S36)) (a1 : Int) : Option ((List (S81))) := (impl_measure.f (([(⟨99999, 0⟩ : S81)] : List (S81))) a0_0).bind fun t347 => (if 0 ≤ a1 then (if a1 < (t347.length : Int) then (impl_Net_toward.l0 k (t347.set (a1 : Int).toNat (⟨0, 0⟩ : S81)) true a0_0 l0_1) else (none)) else (none))
theorem impl_Net_toward.mono_l : ∀ k, (∀ y0 y1 y2 y3, LeO (impl_Net_toward.l0 k y0 y1 y2 y3) (impl_Net_toward.l0 (k + 1) y0 y1 y2 y3)) ∧ (∀ y0 y1 y2 y3 y4 y5 y6, LeO (impl_Net_toward.l1 k y0 y1 y2 y3 y4 y5 y6) (impl_Net_toward.l1 (k + 1) y0 y1 y2 y3 y4 y5 y6))
  | 0 => ⟨fun _ _ _ _ r h => by simp [impl_Net_toward.l0] at h, fun _ _ _ _ _ _ _ r h => by simp [impl_Net_toward.l1] at h⟩
  | k + 1 => by
    obtain ⟨ih0, ih1⟩ := impl_Net_toward.mono_l k
    refine ⟨?_, ?_⟩
    · intro y0 y1 y2 y3
      unfold impl_Net_toward.l0
      repeat' first | (with_reducible first | exact ih0 _ _ _ _ | exact ih1 _ _ _ _ _ _ _ | exact LeO.refl _ | exact LeO.none _ | refine LeO.ite ?_ ?_ | refine LeO.bind ?_ (fun _ => ?_)) | exact ih0 _ _ _ _ | exact ih1 _ _ _ _ _ _ _ | exact LeO.none _ | refine LeO.ite ?_ ?_ | refine LeO.bind ?_ (fun _ => ?_)
    · intro y0 y1 y2 y3 y4 y5 y6
      unfold impl_Net_toward.l1
      repeat' first | (with_reducible first | exact ih0 _ _ _ _ | exact ih1 _ _ _ _ _ _ _ | exact LeO.refl _ | exact LeO.none _ | refine LeO.ite ?_ ?_ | refine LeO.bind ?_ (fun _ => ?_)) | exact ih0 _ _ _ _ | exact ih1 _ _ _ _ _ _ _ | exact LeO.none _ | refine LeO.ite ?_ ?_ | refine LeO.bind ?_ (fun _ => ?_)
theorem impl_Net_toward.mono : ∀ a0 a1 a2 k, LeO (impl_Net_toward.f k a0 a1 a2) (impl_Net_toward.f (k + 1) a0 a1 a2) := by
  intro a0 a1 a2 k
  obtain ⟨ih0, ih1⟩ := impl_Net_toward.mono_l k
  unfold impl_Net_toward.f
  repeat' first | (with_reducible first | exact ih0 _ _ _ _ | exact ih1 _ _ _ _ _ _ _ | exact LeO.refl _ | exact LeO.none _ | refine LeO.ite ?_ ?_ | refine LeO.bind ?_ (fun _ => ?_)) | exact ih0 _ _ _ _ | exact ih1 _ _ _ _ _ _ _ | exact LeO.none _ | refine LeO.ite ?_ ?_ | refine LeO.bind ?_ (fun _ => ?_)
set_option maxHeartbeats 200000000 in
set_option maxRecDepth 100000 in
theorem impl_Net_toward.calls (k : Nat) (a0_0 : Int) (A0_1 : Option Addr) (c0_1 : Nat) (l0_1 : List (S36)) (a1 : Int) (r : List (S81)) (w : World) (hr0_1 : Kd.C k36 w A0_1 l0_1.length l0_1) (hc0_1 : l0_1.length ≤ c0_1) (h : impl_Net_toward.f k a0_0 l0_1 a1 = some r) :
    Calls Try.prog 39 #[.agg #[.int .i64 a0_0, .slice A0_1 l0_1.length c0_1], .int .i64 a1] w fun e w' => ∃ v0_ : Value, e = .returned (v0_) ∧ Kd.R k81 81 w' w.heap.size (fun _ => True) v0_ r ∧ Below w.heap.size w w' := by
  have hu25 := Try.underlying25
  have hu81 := Try.underlying81
  have hu36 := Try.underlying36
  have HR0_1 := Aside0.mk hr0_1
  have HC0_1 := Aside0.mk hc0_1
  clear hr0_1 hc0_1
  have HB := Aside0.mk (Below.refl w.heap.size w)
  have H : ((impl_measure.f (([(⟨99999, 0⟩ : S81)] : List (S81))) a0_0).bind fun t347 => (if 0 ≤ a1 then (if a1 < (t347.length : Int) then (impl_Net_toward.l0 k (t347.set (a1 : Int).toNat (⟨0, 0⟩ : S81)) true a0_0 l0_1) else (none)) else (none))) = some r := h
  clear h
  obtain ⟨y344, hy344⟩ : ∃ y_ : List (S81), y_ = (([(⟨99999, 0⟩ : S81)] : List (S81))) := ⟨_, rfl⟩
  replace H : ((impl_measure.f y344 a0_0).bind fun t347 => (if 0 ≤ a1 then (if a1 < (t347.length : Int) then (impl_Net_toward.l0 k (t347.set (a1 : Int).toNat (⟨0, 0⟩ : S81)) true a0_0 l0_1) else (none)) else (none))) = some r := by first | (rw [hy344]; with_reducible exact H) | (have H2_ := (Option.bind_some _ _).symm.trans H; rw [hy344]; with_reducible exact H2_) | (have H2_ := (Option.bind_some _ _).symm.trans H; with_reducible exact H2_) | with_reducible exact H | (rw [hy344]; exact H) | exact H
  have Ny344 := Aside0.mk hy344
  clear hy344
  replace H := Option.bind_eq_some_iff.mp H
  obtain ⟨t347, A30, H⟩ := H
  try dsimp only at H
  have A3 := Aside0.mk A30
  clear A30
  by_cases c4 : 0 ≤ a1
  rotate_left
  ·rw [if_neg c4] at H
   exact absurd H (by simp)

  rw [if_pos c4] at H
  have c4b0 : decide (0 ≤ a1) = true := decide_eq_true c4
  clear c4
  by_cases c5 : a1 < (t347.length : Int)
  rotate_left
  ·rw [if_neg c5] at H
   exact absurd H (by simp)
  rw [if_pos c5] at H
  have c5b0 : decide (a1 < (t347.length : Int)) = true := decide_eq_true c5
  clear c5
  obtain ⟨y350, hy350⟩ : ∃ y_ : List (S81), y_ = (t347.set (a1 : Int).toNat (⟨0, 0⟩ : S81)) := ⟨_, rfl⟩
  replace H : (impl_Net_toward.l0 k y350 true a0_0 l0_1) = some r := by first | (rw [hy350]; with_reducible exact H) | (have H2_ := (Option.bind_some _ _).symm.trans H; rw [hy350]; with_reducible exact H2_) | (have H2_ := (Option.bind_some _ _).symm.trans H; with_reducible exact H2_) | with_reducible exact H | (rw [hy350]; exact H) | exact H
  have Ny350 := Aside0.mk hy350
  clear hy350
  have H' := Aside0.mk H
  clear H
  go_enter Try.func39, Try.ntmps39
  go_wp2_with (first | ((with_reducible refine gate_dst (N := 2) rfl ?_); refine bx_ 2 #[.int .i64 a0_0, .slice A0_1 l0_1.length c0_1] 25 ?_; intro gb343 hg w7 hbox hb; have BK343 := Aside0.mk (hbox); have GW343 := Aside0.mk (zs_ hg (ne_ HB.out)); have GE343 := Aside0.mk (zs_ hg (ne_ HB.out)); replace HB := kB_ HB hb; clear hb hbox hg) | ((with_reducible refine gate_dst (N := 11) rfl ?_); refine Kd.R_lit k81 _ 81 ?hg (N := 11) ?hd (xs := ([(⟨99999, 0⟩ : S81)] : List (S81))) (inner := [.int .i64 99999, .int .i64 0]) (ok := fun _ => True) (okp := fun _ => True) ?hr ?hp (fun _ hk => hk) trivial (Below.refl _ _) (Nat.le_refl _) (by simp) ?_; (case hd => rfl); (case hg => rfl); (case hr => first | (go_simp; done) | (go_simp; rfl)); (case hp => exact (Reps.c2 (show Kd.M k81 _ _ _ (⟨99999, 0⟩ : S81) [.int .i64 99999, .int .i64 0] from (k81_mkM _ _ _ (⟨99999, 0⟩ : S81) )) (Reps.none _ _))); intro v345 w8 ho9 hb hg_ hnew_; clear hg_ hnew_; (first | rw [← Ny344.out] at ho9 | (simp only [Int.reduceToNat] at ho9; rw [← Ny344.out] at ho9)); have HO346 := Aside0.mk (Kd.R_lower ho9 (below_size (ne_ HB.out))); replace BK343 := kb_ BK343 hb; replace HB := kB_ HB hb; clear hb ho9; obtain ⟨hcz10_0, hcz10_1, hfz10_0, hfz10_1⟩ := cz2_ BK343.out; obtain ⟨Ao11, co11, eo11⟩ := Kd.R_slice HO346.out; subst eo11) | ((with_reducible refine gate_callee (f := 45) rfl ?_); refine gl_ (some 14) Try.func45 #[.slice Ao11 y344.length co11, .int .i64 a0_0] ?_; (with_reducible refine (impl_measure.calls _ _ y344 a0_0 t347 _ ?side1 ?side2 A3.out).mono ?_); (case side1 => exact nc_ (Kd.R_reads' HO346.out).2.2); (case side2 => exact (Kd.R_reads' HO346.out).2.1); rintro e w12 ⟨v348, rfl, ho0, hb⟩; refine ⟨_, rfl, ?_⟩; have HO349 := Aside0.mk (Kd.R_lower (Kd.R_new' ho0 (Kd.R_lt (nr_ HO346.out))) (below_size (ne_ HB.out))); replace HO346 := Aside0.mk (Kd.R_elder' (nr_ HO346.out) (Kd.R_base ho0) hb); replace BK343 := kb_ BK343 hb; replace HB := kB_ HB hb; (try clear hb); (try clear hb2); (try clear hk); (try clear hi); (try clear ho0); have p6 : 0 ≤ (a1 : Int) := of_decide_eq_true nx_; have q6 : (a1 : Int) < ((t347.length : Int) : Int) := of_decide_eq_true nx_; obtain ⟨go6, co6, eo6, gb6, gl6, cl6, HG6⟩ := Kd.R_form HO349.out (by omega); (first | cases eo6 | (injection eo6 with ea_ en_ ec_; (first | subst ea_ | (injection ea_ with ea_; subst ea_)); subst ec_; clear en_)); have GB6 := Aside0.mk gb6; have GG6 := Aside0.mk HG6; clear gb6 gl6 HG6; obtain ⟨ce6, hcl6, hM6, hcc6, hfr6⟩ := Kd.R_elem HO349.out z81 (a1 : Int) p6 q6; obtain rfl := k81_openM hM6; have hx6_0 : w12.cell? ⟨go6, (a1 : Int).toNat * 2, none⟩ = some (.int .i64 ((rd_T81 t347 a1).f0)) := hcc6 0 _ rfl; have hx6_1 : w12.cell? ⟨go6, (a1 : Int).toNat * 2 + 1, none⟩ = some (.int .i64 ((rd_T81 t347 a1).f1)) := hcc6 1 _ rfl; have hf6_0 : w12.frozen? ⟨go6, (a1 : Int).toNat * 2, none⟩ = false := hfr6 0; have hf6_1 : w12.frozen? ⟨go6, (a1 : Int).toNat * 2 + 1, none⟩ = false := hfr6 1; clear hcl6 hcc6 hfr6 hM6; replace p6 := eq_true p6; replace q6 := eq_true q6; have n_ := Aside0.mk (Kd.R_mono (ok' := (fun k_ => some k_ ≠ (.slice Ao11 y344.length co11 : Value).ownBlock)) HO349.out (fun k_ hk => hk.2)); clear HO349; have HO349 := n_; clear n_; have HX13 := Aside0.mk (show Kd.R k81 81 w12 w.heap.size (fun k_ => some k_ ≠ (.slice Ao11 y344.length co11 : Value).ownBlock) (.slice (some ⟨go6, 0, none⟩) t347.length co6) t347 from (nr_ HO349.out)); obtain ⟨ce13, hcl13, hM13, hcc13, hfr13⟩ := Kd.R_elem HX13.out z81 (a1 : Int) (of_decide_eq_true nx_) (by have h_ : (a1 : Int) < ((t347.length : Int) : Int) := of_decide_eq_true nx_; first | exact h_ | (have e_ := (Kd.R_reads' HO349.out).1; omega) | simpa using h_); obtain rfl := k81_openM hM13; have HP13 := Kd.R_seg HX13.out (a1 : Int) (of_decide_eq_true nx_) (by have h_ : (a1 : Int) < ((t347.length : Int) : Int) := of_decide_eq_true nx_; first | exact h_ | (have e_ := (Kd.R_reads' HO349.out).1; omega) | simpa using h_) (seg := [.int .i64 0, .int .i64 0]) (j := 0) hcl13 hcc13 (show 2 ≤ 2 from by decide) (x' := (⟨0, 0⟩ : S81)) (k81_mkM _ _ _ (⟨0, 0⟩ : S81) ) (fun _ hk => hk); have hx13_0 := hcc13 0 _ rfl; (try simp only [show (k81).sz = 2 from rfl, Nat.mul_one, Nat.add_zero] at hx13_0); have hf13_0 := hfr13 0; (try simp only [show (k81).sz = 2 from rfl, Nat.mul_one, Nat.add_zero] at hf13_0); have hx13_1 := hcc13 1 _ rfl; (try simp only [show (k81).sz = 2 from rfl, Nat.mul_one, Nat.add_zero] at hx13_1); have hf13_1 := hfr13 1; (try simp only [show (k81).sz = 2 from rfl, Nat.mul_one, Nat.add_zero] at hf13_1); clear hcl13 hcc13 hfr13 hM13) | ((with_reducible refine gate_store (t := 81) (p := 18) rfl ?_); refine store_event (t := 81) (p := 18) (v := ?vo_w14) (w1 := ((w12.setCell ⟨go6, (a1 : Int).toNat * 2, none⟩ (.int .i64 0)).setCell ⟨go6, (a1 : Int).toNat * 2 + 1, none⟩ (.int .i64 0))) ?hg ?ho ?hn ?hr ?_; (case ho => rfl); (case hg => rfl); (case hn => rfl); (case hr => first | (go_simp; done) | (go_simp; rfl)); intro w14 hw; have hg : w12.grownBy w14 (some go6) := (by rw [hw]; exact HP13.2); have hp_ : Kd.R k81 81 w14 w.heap.size (fun k_ => some k_ ≠ (.slice Ao11 y344.length co11 : Value).ownBlock) (.slice (some ⟨go6, 0, none⟩) t347.length co6) y350 := (by rw [hw, Ny350.out]; exact HP13.1); clear HP13; replace BK343 := Aside0.mk (blk_grown (g := gb343) (o := .cells #[.int .i64 a0_0, .slice A0_1 l0_1.length c0_1] 25 (0, 0)) (nb_ BK343.out) hg (Kd.R_ne HO349.out BK343.out (by decide))); replace HO346 := Aside0.mk (Kd.R_after (v := (.slice (some ⟨go6, 0, none⟩) t347.length co6)) (v1 := (.slice (some ⟨go6, 0, none⟩) t347.length co6)) (ok := (fun _ => True)) (nr_ HO346.out) hg (.inl rfl)); replace HO349 := Aside0.mk (hp_); replace HB := Aside0.mk ((by rw [hw]; exact below_set (below_set (HB.out) GB6.out) GB6.out : Below w.heap.size w w14)); clear hg hw hp_))
  go_loopg [6] k (fun kq v6 w' => ∃ (x5_1 : List (S81)) (x6_1 : Bool), v6 = .bool x6_1 ∧ Aside0 (impl_Net_toward.l0 kq x5_1 x6_1 a0_0 l0_1 = some r) ∧ Aside0 (kq ≤ k) ∧ Aside0 (Kd.R k81 81 w' w.heap.size (fun _ => True) (.slice (some ⟨go6, 0, none⟩) t347.length co6) x5_1) ∧ Aside0 (w'.heap[gb343]? = some (.cells #[.int .i64 a0_0, (.slice A0_1 l0_1.length c0_1)] 25 (0, 0))) ∧ Aside0 (Below w.heap.size w w'))
  case atStart => exact ⟨(y350), (true), ns_, H', ⟨Nat.le_refl _⟩, ⟨by (with_reducible repeat (first | apply Kd.R_alloc | apply Kd.R_drewN | apply Kd.R_drew)); exact Kd.R_mono HO349.out (fun _ hk => trivial)⟩, ⟨nb_ BK343.out⟩, ⟨ne_ HB.out⟩⟩
  case round =>
   clear H'
   try clear c2
   try clear c4
   try clear c4b0
   try clear c5
   try clear c5b0
   try clear p6
   try clear q6
   try clear hcz10_0
   try clear hcz10_1
   try clear hfz10_0
   try clear hfz10_1
   try clear hx13_0
   try clear hx13_1
   try clear hx6_0
   try clear hx6_1
   try clear p6
   try clear q6
   obtain ⟨x5_1, x6_1, rfl, HA, HK1, HO_5, BK343, HB⟩ := hrel
   have hl5_1 := (Kd.R_reads' HO_5.out).1
   rw [hl5_1] at HO_5
   (try simp only [hl5_1])
   (try simp only [hl5_1] at BK343)
   cases gk with
   | zero => exact absurd HA.out (by simp [impl_Net_toward.l0])
   | succ k1 =>
    have H := HA.out
    clear HA
    simp only [impl_Net_toward.l0] at H
    by_cases c15 : x6_1 = true
    rotate_left
    ·replace c15 := Bool.eq_false_iff.mpr c15
     subst c15
     have H1 : (some x5_1) = some r := by rw [if_neg (show ¬ (false = true) by decide)] at H; exact H
     clear H
     have H := H1
     clear H1
     obtain rfl := Option.some.inj H
     go_wp2
     go_ret
     exact ⟨_, nw_, nr_ HO_5.out, ne_ HB.out⟩
    subst c15
    rw [if_pos rfl] at H
    have H' := Aside0.mk H
    clear H
    obtain ⟨hcz16_0, hcz16_1, hfz16_0, hfz16_1⟩ := cz2_ BK343.out
    go_wp2
    go_loopg [6, 23] k1 (fun kq v6 v23 w' => ∃ (x5_2 : List (S81)) (x6_2 : Bool) (x23_2 : Int), v6 = .bool x6_2 ∧ v23 = .int .i64 x23_2 ∧ Aside0 (impl_Net_toward.l1 kq x5_2 x6_2 l0_1 (l0_1.length : Int) x23_2 a0_0 l0_1 = some r) ∧ Aside0 (kq ≤ k1) ∧ Aside0 (Kd.R k81 81 w' w.heap.size (fun _ => True) (.slice (some ⟨go6, 0, none⟩) x5_1.length co6) x5_2) ∧ Aside0 (w'.heap[gb343]? = some (.cells #[.int .i64 a0_0, (.slice A0_1 l0_1.length c0_1)] 25 (0, 0))) ∧ Aside0 (Below w.heap.size w w'))
    case atStart => exact ⟨(x5_1), (false), (0), ns_, ns_, H', ⟨Nat.le_refl _⟩, ⟨by (try simp only [hl5_1]); (with_reducible repeat (first | apply Kd.R_alloc | apply Kd.R_drewN | apply Kd.R_drew)); exact HO_5.out⟩, ⟨by (try simp only [hl5_1]); (with_reducible repeat (first | refine blk_drewN ?_ _ | refine blk_drew ?_ | refine blk_alloc ?_ _)); exact BK343.out⟩, ⟨ne_ HB.out⟩⟩
    case round =>
     clear H'
     try clear c2
     try clear c4
     try clear c4b0
     try clear c5
     try clear c5b0
     try clear p6
     try clear q6
     try clear c15
     try clear hcz10_0
     try clear hcz10_1
     try clear hcz16_0
     try clear hcz16_1
     try clear hfz10_0
     try clear hfz10_1
     try clear hfz16_0
     try clear hfz16_1
     try clear hx13_0
     try clear hx13_1
     try clear hx6_0
     try clear hx6_1
     try clear p6
     try clear q6
     obtain ⟨x5_2, x6_2, x23_2, rfl, rfl, HA, HK2, HO_5, BK343, HB⟩ := hrel
     have hl5_2 := (Kd.R_reads' HO_5.out).1
     rw [hl5_2] at HO_5
     (try simp only [hl5_2])
     (try simp only [hl5_2] at BK343)
     cases gk with
     | zero => exact absurd HA.out (by simp [impl_Net_toward.l1])
     | succ k2 =>
      have H := HA.out
      clear HA
      simp only [impl_Net_toward.l1] at H
      by_cases c17 : x23_2 < (l0_1.length : Int)
      rotate_left
      ·rw [if_neg c17] at H
       have c17b0 : decide (x23_2 < (l0_1.length : Int)) = false := decide_eq_false c17
       clear c17
       have H' := Aside0.mk H
       clear H
       go_wp2
       (try simp only [← hl5_1, ← hl5_2])
       go_roundg k2
       case measure => have := HK1.out; have := HK2.out; omega
       case rel => exact ⟨(x5_2), (x6_2), ns_, H', ⟨by have := HK1.out; have := HK2.out; omega⟩, ⟨by (try simp only [hl5_1]); (try simp only [hl5_2]); (with_reducible repeat (first | apply Kd.R_alloc | apply Kd.R_drewN | apply Kd.R_drew)); exact HO_5.out⟩, ⟨by (try simp only [hl5_1]); (try simp only [hl5_2]); (with_reducible repeat (first | refine blk_drewN ?_ _ | refine blk_drew ?_ | refine blk_alloc ?_ _)); exact BK343.out⟩, ⟨ne_ HB.out⟩⟩
      rw [if_pos c17] at H
      have c17b0 : decide (x23_2 < (l0_1.length : Int)) = true := decide_eq_true c17
      clear c17
      by_cases c18 : 0 ≤ x23_2
      rotate_left
      ·rw [if_neg c18] at H
       exact absurd H (by simp)
      rw [if_pos c18] at H
      have c18b0 : decide (0 ≤ x23_2) = true := decide_eq_true c18
      clear c18
      by_cases c19 : x23_2 < (l0_1.length : Int)
      rotate_left
      ·rw [if_neg c19] at H
       exact absurd H (by simp)
      rw [if_pos c19] at H
      have c19b0 : decide (x23_2 < (l0_1.length : Int)) = true := decide_eq_true c19
      clear c19
      by_cases c20 : 0 ≤ ((rd_T36 l0_1 x23_2).f1)
      rotate_left
      ·rw [if_neg c20] at H
       exact absurd H (by simp)
      rw [if_pos c20] at H
      have c20b0 : decide (0 ≤ ((rd_T36 l0_1 x23_2).f1)) = true := decide_eq_true c20
      clear c20
      by_cases c21 : ((rd_T36 l0_1 x23_2).f1) < (x5_2.length : Int)
      rotate_left
      ·rw [if_neg c21] at H
       exact absurd H (by simp)
      rw [if_pos c21] at H
      have c21b0 : decide (((rd_T36 l0_1 x23_2).f1) < (x5_2.length : Int)) = true := decide_eq_true c21
      clear c21
      by_cases c22 : ((rd_T81 x5_2 ((rd_T36 l0_1 x23_2).f1)).f0) = 99999
      ·rw [if_pos c22] at H
       have c22b0 : (((rd_T81 x5_2 ((rd_T36 l0_1 x23_2).f1)).f0) == 99999) = true := beq_iff_eq.mpr c22
       have c22b1 : (((rd_T81 x5_2 ((rd_T36 l0_1 x23_2).f1)).f0) != 99999) = false := bne_eq_false_iff_eq.mpr c22
       clear c22
       have H' := Aside0.mk H
       clear H
       have p351 : 0 ≤ (x23_2 : Int) := of_decide_eq_true nx_
       have q351 : x23_2 < (l0_1.length : Int) := of_decide_eq_true nx_
       obtain ⟨ad351, e351, hx351_0, hx351_1, hx351_2, hx351_3, hx351_4⟩ := at_T36 HR0_1.out x23_2 p351 q351
       cases e351
       replace hx351_0 := hb_ HB.out hx351_0
       replace hx351_1 := hb_ HB.out hx351_1
       replace hx351_2 := hb_ HB.out hx351_2
       replace hx351_3 := hb_ HB.out hx351_3
       replace hx351_4 := hb_ HB.out hx351_4
       replace p351 := eq_true p351
       replace q351 := eq_true q351
       go_wp2_with (first | ((with_reducible refine gate_dst (N := 8) rfl ?_); refine bx_ 8 #[.int .i64 0, .int .i64 0, .int .i64 0, .int .i64 0, .int .i64 0] 36 ?_; intro gb352 hg w23 hbox hb; have BK352 := Aside0.mk (hbox); have GW352 := Aside0.mk (zs_ hg (ne_ HB.out)); have GE352 := Aside0.mk (zs_ hg (ne_ HB.out)); have NB343_352 := Aside0.mk (nl_ BK343.out hg); have NB352_343 := Aside0.mk (nm_ BK343.out hg); replace HO_5 := kR_ HO_5 hb; replace BK343 := kb_ BK343 hb; replace HB := kB_ HB hb; clear hb hbox hg; have hnb24 := NB352_343.out; have hnc24 := NB343_352.out; obtain ⟨hcz25_0, hcz25_1, hcz25_2, hcz25_3, hcz25_4, hfz25_0, hfz25_1, hfz25_2, hfz25_3, hfz25_4⟩ := cz5_ BK352.out; have p353 : 0 ≤ (((rd_T36 l0_1 x23_2).f1) : Int) := of_decide_eq_true nx_; have q353 : ((rd_T36 l0_1 x23_2).f1) < (x5_2.length : Int) := of_decide_eq_true nx_; obtain ⟨ad353, e353, hx353_0, hx353_1⟩ := at_T81 (Kd.R_reads' HO_5.out).2.2 ((rd_T36 l0_1 x23_2).f1) p353 q353; obtain rfl : (⟨go6, 0, none⟩ : Addr) = ad353 := (by injection e353); (first | simp only [add_plain] at hx353_0 | simp only [add_at] at hx353_0 | simp only [Addr.add, Nat.zero_add] at hx353_0 | skip); (first | simp only [add_plain] at hx353_1 | simp only [add_at] at hx353_1 | simp only [Addr.add, Nat.zero_add] at hx353_1 | skip); have hn353_0 : (⟨go6, 0, none⟩ : Addr).block ≠ gb352 := Kd.own_blk (Kd.R_ne HO_5.out BK352.out (by decide)); have hn353_1 : (⟨go6, 0, none⟩ : Addr).block ≠ gb352 := Kd.own_blk (Kd.R_ne HO_5.out BK352.out (by decide)); have hn353_2 : (⟨go6, 0, none⟩ : Addr).block ≠ gb352 := Kd.own_blk (Kd.R_ne HO_5.out BK352.out (by decide)); have hn353_3 : (⟨go6, 0, none⟩ : Addr).block ≠ gb352 := Kd.own_blk (Kd.R_ne HO_5.out BK352.out (by decide)); have hn353_4 : (⟨go6, 0, none⟩ : Addr).block ≠ gb352 := Kd.own_blk (Kd.R_ne HO_5.out BK352.out (by decide)); replace hx353_0 := (cf39_ (g := gb352) (nf39_ hn353_0) (.int .i64 ((rd_T36 l0_1 x23_2).f0)) (.int .i64 ((rd_T36 l0_1 x23_2).f1)) (.int .i64 ((rd_T36 l0_1 x23_2).f2)) (.int .i64 ((rd_T36 l0_1 x23_2).f3)) (.int .i64 ((rd_T36 l0_1 x23_2).f4))).trans hx353_0; replace hx353_1 := (cf39_ (g := gb352) (nf39_ hn353_0) (.int .i64 ((rd_T36 l0_1 x23_2).f0)) (.int .i64 ((rd_T36 l0_1 x23_2).f1)) (.int .i64 ((rd_T36 l0_1 x23_2).f2)) (.int .i64 ((rd_T36 l0_1 x23_2).f3)) (.int .i64 ((rd_T36 l0_1 x23_2).f4))).trans hx353_1; clear hn353_0; clear hn353_1; clear hn353_2; clear hn353_3; clear hn353_4; replace p353 := eq_true p353; replace q353 := eq_true q353) | ((with_reducible refine gate_dst (N := 9) rfl ?_); refine bx_ 9 #[.int .i64 0, .int .i64 0] 81 ?_; intro gb354 hg w26 hbox hb; have BK354 := Aside0.mk (hbox); have GW354 := Aside0.mk (zs_ hg (ne_ HB.out)); have GE354 := Aside0.mk (zs_ hg (ne_ HB.out)); have NB343_354 := Aside0.mk (nl_ BK343.out hg); have NB354_343 := Aside0.mk (nm_ BK343.out hg); have NB352_354 := Aside0.mk (nl_ BK352.out hg); have NB354_352 := Aside0.mk (nm_ BK352.out hg); replace HO_5 := Aside0.mk (Kd.R_below (Kd.R_elderB (by (with_reducible repeat (first | apply Kd.R_alloc | apply Kd.R_drewN | apply Kd.R_drew)); exact (Kd.R_mono (rf5_ (Kd.R_types HO_5.out BK352.out (by decide))) (fun _ h_ => h_.1))) gb354 (Nat.le_of_eq hg.symm)) hb); replace BK343 := kf_ BK343 hb; replace BK352 := Aside0.mk (blk_below (g := gb352) (o := .cells #[.int .i64 ((rd_T36 l0_1 x23_2).f0), .int .i64 ((rd_T36 l0_1 x23_2).f1), .int .i64 ((rd_T36 l0_1 x23_2).f2), .int .i64 ((rd_T36 l0_1 x23_2).f3), .int .i64 ((rd_T36 l0_1 x23_2).f4)] 36 (0, 0)) (np_ BK352.out) hb); replace HB := kB_ HB hb; clear hb hbox hg; have hnb27 := NB354_343.out; have hnc27 := NB343_354.out; have hnb28 := NB354_352.out; have hnc28 := NB352_354.out; obtain ⟨hcz29_0, hcz29_1, hfz29_0, hfz29_1⟩ := cz2_ BK354.out))
       (try simp only [← hl5_2])
       go_roundg k2
       case measure => have := HK1.out; have := HK2.out; omega
       case rel => exact ⟨(x5_2), (x6_2), (wrap64 (x23_2 + 1)), ns_, ns_, H', ⟨by have := HK1.out; have := HK2.out; omega⟩, ⟨by (try simp only [hl5_1]); (try simp only [hl5_2]); (with_reducible repeat (first | apply Kd.R_alloc | apply Kd.R_drewN | apply Kd.R_drew)); exact Kd.R_mono (rf2_ (Kd.R_mono HO_5.out (fun k_ hk => (⟨hk, hk.2⟩ : _ ∧ k_ ≠ gb354)))) (fun _ hk => trivial)⟩, ⟨by (try simp only [hl5_1]); (try simp only [hl5_2]); (with_reducible repeat (first | refine blk_drewN ?_ _ | refine blk_drew ?_ | refine blk_alloc ?_ _)); refine blk_far ?_ NB343_354.out _; (with_reducible repeat (first | refine blk_drewN ?_ _ | refine blk_drew ?_ | refine blk_alloc ?_ _)); refine blk_far ?_ NB343_354.out _; (with_reducible repeat (first | refine blk_drewN ?_ _ | refine blk_drew ?_ | refine blk_alloc ?_ _)); exact BK343.out⟩, ⟨ne_ HB.out⟩⟩
      rw [if_neg c22] at H
      have c22b0 : (((rd_T81 x5_2 ((rd_T36 l0_1 x23_2).f1)).f0) == 99999) = false := beq_eq_false_iff_ne.mpr c22
      have c22b1 : (((rd_T81 x5_2 ((rd_T36 l0_1 x23_2).f1)).f0) != 99999) = true := bne_iff_ne.mpr c22
      by_cases c30 : 0 ≤ ((rd_T36 l0_1 x23_2).f0)
      rotate_left
      ·rw [if_neg c30] at H
       exact absurd H (by simp)
      rw [if_pos c30] at H
      have c30b0 : decide (0 ≤ ((rd_T36 l0_1 x23_2).f0)) = true := decide_eq_true c30
      clear c30
      by_cases c31 : ((rd_T36 l0_1 x23_2).f0) < (x5_2.length : Int)
      rotate_left
      ·rw [if_neg c31] at H
       exact absurd H (by simp)
      rw [if_pos c31] at H
      have c31b0 : decide (((rd_T36 l0_1 x23_2).f0) < (x5_2.length : Int)) = true := decide_eq_true c31
      clear c31
      replace H := Option.bind_eq_some_iff.mp H
      obtain ⟨t356, A320, H⟩ := H
      try dsimp only at H
      have A32 := Aside0.mk A320
      clear A320
      by_cases c33 : t356 = true
      rotate_left
      ·replace c33 := Bool.eq_false_iff.mpr c33
       subst c33
       have H1 : (impl_Net_toward.l1 k2 x5_2 x6_2 l0_1 (l0_1.length : Int) (wrap64 (x23_2 + 1)) a0_0 l0_1) = some r := by rw [if_neg (show ¬ (false = true) by decide)] at H; exact H
       clear H
       have H := H1
       clear H1
       have H' := Aside0.mk H
       clear H
       have p351 : 0 ≤ (x23_2 : Int) := of_decide_eq_true nx_
       have q351 : x23_2 < (l0_1.length : Int) := of_decide_eq_true nx_
       obtain ⟨ad351, e351, hx351_0, hx351_1, hx351_2, hx351_3, hx351_4⟩ := at_T36 HR0_1.out x23_2 p351 q351
       cases e351
       replace hx351_0 := hb_ HB.out hx351_0
       replace hx351_1 := hb_ HB.out hx351_1
       replace hx351_2 := hb_ HB.out hx351_2
       replace hx351_3 := hb_ HB.out hx351_3
       replace hx351_4 := hb_ HB.out hx351_4
       replace p351 := eq_true p351
       replace q351 := eq_true q351
       try go_wp2_with (first | ((with_reducible refine gate_dst (N := 8) rfl ?_); refine bx_ 8 #[.int .i64 0, .int .i64 0, .int .i64 0, .int .i64 0, .int .i64 0] 36 ?_; intro gb352 hg w50 hbox hb; have BK352 := Aside0.mk (hbox); have GW352 := Aside0.mk (zs_ hg (ne_ HB.out)); have GE352 := Aside0.mk (zs_ hg (ne_ HB.out)); have NB343_352 := Aside0.mk (nl_ BK343.out hg); have NB352_343 := Aside0.mk (nm_ BK343.out hg); replace HO_5 := kR_ HO_5 hb; replace BK343 := kb_ BK343 hb; replace HB := kB_ HB hb; clear hb hbox hg; have hnb51 := NB352_343.out; have hnc51 := NB343_352.out; obtain ⟨hcz52_0, hcz52_1, hcz52_2, hcz52_3, hcz52_4, hfz52_0, hfz52_1, hfz52_2, hfz52_3, hfz52_4⟩ := cz5_ BK352.out; have p353 : 0 ≤ (((rd_T36 l0_1 x23_2).f1) : Int) := of_decide_eq_true nx_; have q353 : ((rd_T36 l0_1 x23_2).f1) < (x5_2.length : Int) := of_decide_eq_true nx_; obtain ⟨ad353, e353, hx353_0, hx353_1⟩ := at_T81 (Kd.R_reads' HO_5.out).2.2 ((rd_T36 l0_1 x23_2).f1) p353 q353; obtain rfl : (⟨go6, 0, none⟩ : Addr) = ad353 := (by injection e353); (first | simp only [add_plain] at hx353_0 | simp only [add_at] at hx353_0 | simp only [Addr.add, Nat.zero_add] at hx353_0 | skip); (first | simp only [add_plain] at hx353_1 | simp only [add_at] at hx353_1 | simp only [Addr.add, Nat.zero_add] at hx353_1 | skip); have hn353_0 : (⟨go6, 0, none⟩ : Addr).block ≠ gb352 := Kd.own_blk (Kd.R_ne HO_5.out BK352.out (by decide)); have hn353_1 : (⟨go6, 0, none⟩ : Addr).block ≠ gb352 := Kd.own_blk (Kd.R_ne HO_5.out BK352.out (by decide)); have hn353_2 : (⟨go6, 0, none⟩ : Addr).block ≠ gb352 := Kd.own_blk (Kd.R_ne HO_5.out BK352.out (by decide)); have hn353_3 : (⟨go6, 0, none⟩ : Addr).block ≠ gb352 := Kd.own_blk (Kd.R_ne HO_5.out BK352.out (by decide)); have hn353_4 : (⟨go6, 0, none⟩ : Addr).block ≠ gb352 := Kd.own_blk (Kd.R_ne HO_5.out BK352.out (by decide)); replace hx353_0 := (cf39_ (g := gb352) (nf39_ hn353_0) (.int .i64 ((rd_T36 l0_1 x23_2).f0)) (.int .i64 ((rd_T36 l0_1 x23_2).f1)) (.int .i64 ((rd_T36 l0_1 x23_2).f2)) (.int .i64 ((rd_T36 l0_1 x23_2).f3)) (.int .i64 ((rd_T36 l0_1 x23_2).f4))).trans hx353_0; replace hx353_1 := (cf39_ (g := gb352) (nf39_ hn353_0) (.int .i64 ((rd_T36 l0_1 x23_2).f0)) (.int .i64 ((rd_T36 l0_1 x23_2).f1)) (.int .i64 ((rd_T36 l0_1 x23_2).f2)) (.int .i64 ((rd_T36 l0_1 x23_2).f3)) (.int .i64 ((rd_T36 l0_1 x23_2).f4))).trans hx353_1; clear hn353_0; clear hn353_1; clear hn353_2; clear hn353_3; clear hn353_4; replace p353 := eq_true p353; replace q353 := eq_true q353) | ((with_reducible refine gate_dst (N := 9) rfl ?_); refine bx_ 9 #[.int .i64 0, .int .i64 0] 81 ?_; intro gb354 hg w53 hbox hb; have BK354 := Aside0.mk (hbox); have GW354 := Aside0.mk (zs_ hg (ne_ HB.out)); have GE354 := Aside0.mk (zs_ hg (ne_ HB.out)); have NB343_354 := Aside0.mk (nl_ BK343.out hg); have NB354_343 := Aside0.mk (nm_ BK343.out hg); have NB352_354 := Aside0.mk (nl_ BK352.out hg); have NB354_352 := Aside0.mk (nm_ BK352.out hg); replace HO_5 := Aside0.mk (Kd.R_below (Kd.R_elderB (by (with_reducible repeat (first | apply Kd.R_alloc | apply Kd.R_drewN | apply Kd.R_drew)); exact (Kd.R_mono (rf5_ (Kd.R_types HO_5.out BK352.out (by decide))) (fun _ h_ => h_.1))) gb354 (Nat.le_of_eq hg.symm)) hb); replace BK343 := kf_ BK343 hb; replace BK352 := Aside0.mk (blk_below (g := gb352) (o := .cells #[.int .i64 ((rd_T36 l0_1 x23_2).f0), .int .i64 ((rd_T36 l0_1 x23_2).f1), .int .i64 ((rd_T36 l0_1 x23_2).f2), .int .i64 ((rd_T36 l0_1 x23_2).f3), .int .i64 ((rd_T36 l0_1 x23_2).f4)] 36 (0, 0)) (np_ BK352.out) hb); replace HB := kB_ HB hb; clear hb hbox hg; have hnb54 := NB354_343.out; have hnc54 := NB343_354.out; have hnb55 := NB354_352.out; have hnc55 := NB352_354.out; obtain ⟨hcz56_0, hcz56_1, hfz56_0, hfz56_1⟩ := cz2_ BK354.out; obtain ⟨hcz57_0, hcz57_1, hcz57_2, hcz57_3, hcz57_4, hfz57_0, hfz57_1, hfz57_2, hfz57_3, hfz57_4⟩ := cz5_ BK352.out))
       have n0_ : Aside0 (Kd.R k81 81 ((((w53.setCell ⟨gb354, 0, none⟩ (.int .i64 ((rd_T81 x5_2 ((rd_T36 l0_1 x23_2).f1)).f0))).setCell ⟨gb354, 1, none⟩ (.int .i64 ((rd_T81 x5_2 ((rd_T36 l0_1 x23_2).f1)).f1))).setCell ⟨gb354, 0, none⟩ (.int .i64 (wrap64 (((rd_T81 x5_2 ((rd_T36 l0_1 x23_2).f1)).f0) + ((rd_T36 l0_1 x23_2).f2))))).setCell ⟨gb354, 1, none⟩ (.int .i64 (wrap64 (((rd_T81 x5_2 ((rd_T36 l0_1 x23_2).f1)).f1) + 1)))) w.heap.size (fun k_ => k_ ≠ gb354) (.slice (some ⟨go6, 0, none⟩) x5_2.length co6) x5_2) := ⟨by (with_reducible repeat (first | apply Kd.R_alloc | apply Kd.R_drewN | apply Kd.R_drew)); exact Kd.R_mono (Kd.R_far (p := ⟨gb354, 1, none⟩) (Kd.R_far (p := ⟨gb354, 0, none⟩) (rf2_ (Kd.R_mono HO_5.out (fun k_ hk => (⟨hk, hk.2⟩ : _ ∧ k_ ≠ gb354)))) (fun _ hk => hk.2) (.int .i64 (wrap64 (((rd_T81 x5_2 ((rd_T36 l0_1 x23_2).f1)).f0) + ((rd_T36 l0_1 x23_2).f2))))) (fun _ hk => hk.2) (.int .i64 (wrap64 (((rd_T81 x5_2 ((rd_T36 l0_1 x23_2).f1)).f1) + 1)))) (fun _ hk => by first | exact hk.1.2 | trivial | simp_all)⟩
       have n1_ : Aside0 (((((w53.setCell ⟨gb354, 0, none⟩ (.int .i64 ((rd_T81 x5_2 ((rd_T36 l0_1 x23_2).f1)).f0))).setCell ⟨gb354, 1, none⟩ (.int .i64 ((rd_T81 x5_2 ((rd_T36 l0_1 x23_2).f1)).f1))).setCell ⟨gb354, 0, none⟩ (.int .i64 (wrap64 (((rd_T81 x5_2 ((rd_T36 l0_1 x23_2).f1)).f0) + ((rd_T36 l0_1 x23_2).f2))))).setCell ⟨gb354, 1, none⟩ (.int .i64 (wrap64 (((rd_T81 x5_2 ((rd_T36 l0_1 x23_2).f1)).f1) + 1)))).heap[gb343]? = some (.cells #[.int .i64 a0_0, .slice (some ad351) l0_1.length c0_1] 25 (0, 0))) := ⟨np_ BK343.out⟩
       have n2_ : Aside0 (((((w53.setCell ⟨gb354, 0, none⟩ (.int .i64 ((rd_T81 x5_2 ((rd_T36 l0_1 x23_2).f1)).f0))).setCell ⟨gb354, 1, none⟩ (.int .i64 ((rd_T81 x5_2 ((rd_T36 l0_1 x23_2).f1)).f1))).setCell ⟨gb354, 0, none⟩ (.int .i64 (wrap64 (((rd_T81 x5_2 ((rd_T36 l0_1 x23_2).f1)).f0) + ((rd_T36 l0_1 x23_2).f2))))).setCell ⟨gb354, 1, none⟩ (.int .i64 (wrap64 (((rd_T81 x5_2 ((rd_T36 l0_1 x23_2).f1)).f1) + 1)))).heap[gb352]? = some (.cells #[.int .i64 ((rd_T36 l0_1 x23_2).f0), .int .i64 ((rd_T36 l0_1 x23_2).f1), .int .i64 ((rd_T36 l0_1 x23_2).f2), .int .i64 ((rd_T36 l0_1 x23_2).f3), .int .i64 ((rd_T36 l0_1 x23_2).f4)] 36 (0, 0))) := ⟨np_ BK352.out⟩
       have n3_ : Aside0 (((((w53.setCell ⟨gb354, 0, none⟩ (.int .i64 ((rd_T81 x5_2 ((rd_T36 l0_1 x23_2).f1)).f0))).setCell ⟨gb354, 1, none⟩ (.int .i64 ((rd_T81 x5_2 ((rd_T36 l0_1 x23_2).f1)).f1))).setCell ⟨gb354, 0, none⟩ (.int .i64 (wrap64 (((rd_T81 x5_2 ((rd_T36 l0_1 x23_2).f1)).f0) + ((rd_T36 l0_1 x23_2).f2))))).setCell ⟨gb354, 1, none⟩ (.int .i64 (wrap64 (((rd_T81 x5_2 ((rd_T36 l0_1 x23_2).f1)).f1) + 1)))).heap[gb354]? = some (.cells #[.int .i64 (wrap64 (((rd_T81 x5_2 ((rd_T36 l0_1 x23_2).f1)).f0) + ((rd_T36 l0_1 x23_2).f2))), .int .i64 (wrap64 (((rd_T81 x5_2 ((rd_T36 l0_1 x23_2).f1)).f1) + 1))] 81 (0, 0))) := ⟨np_ BK354.out⟩
       have n4_ : Aside0 (Below w.heap.size w ((((w53.setCell ⟨gb354, 0, none⟩ (.int .i64 ((rd_T81 x5_2 ((rd_T36 l0_1 x23_2).f1)).f0))).setCell ⟨gb354, 1, none⟩ (.int .i64 ((rd_T81 x5_2 ((rd_T36 l0_1 x23_2).f1)).f1))).setCell ⟨gb354, 0, none⟩ (.int .i64 (wrap64 (((rd_T81 x5_2 ((rd_T36 l0_1 x23_2).f1)).f0) + ((rd_T36 l0_1 x23_2).f2))))).setCell ⟨gb354, 1, none⟩ (.int .i64 (wrap64 (((rd_T81 x5_2 ((rd_T36 l0_1 x23_2).f1)).f1) + 1))))) := ⟨ne_ HB.out⟩
       (try clear HO_5)
       (try clear BK343)
       (try clear BK352)
       (try clear BK354)
       (try clear HB)
       generalize ((((w53.setCell ⟨gb354, 0, none⟩ (.int .i64 ((rd_T81 x5_2 ((rd_T36 l0_1 x23_2).f1)).f0))).setCell ⟨gb354, 1, none⟩ (.int .i64 ((rd_T81 x5_2 ((rd_T36 l0_1 x23_2).f1)).f1))).setCell ⟨gb354, 0, none⟩ (.int .i64 (wrap64 (((rd_T81 x5_2 ((rd_T36 l0_1 x23_2).f1)).f0) + ((rd_T36 l0_1 x23_2).f2))))).setCell ⟨gb354, 1, none⟩ (.int .i64 (wrap64 (((rd_T81 x5_2 ((rd_T36 l0_1 x23_2).f1)).f1) + 1)))) = w58 at n0_ n1_ n2_ n3_ n4_ ⊢
       have HO_5 := n0_
       have BK343 := n1_
       have BK352 := n2_
       have BK354 := n3_
       have HB := n4_
       clear n0_ n1_ n2_ n3_ n4_
       replace HO_5 := Aside0.mk (Kd.R_drew HO_5.out)
       replace BK343 := Aside0.mk (blk_drew BK343.out)
       replace BK352 := Aside0.mk (blk_drew BK352.out)
       replace BK354 := Aside0.mk (blk_drew BK354.out)
       replace HB := Aside0.mk (below_drew1 HB.out)
       have p355 : 0 ≤ (((rd_T36 l0_1 x23_2).f0) : Int) := of_decide_eq_true nx_
       have q355 : ((rd_T36 l0_1 x23_2).f0) < (x5_2.length : Int) := of_decide_eq_true nx_
       obtain ⟨ad355, e355, hx355_0, hx355_1⟩ := at_T81 (Kd.R_reads' HO_5.out).2.2 ((rd_T36 l0_1 x23_2).f0) p355 q355
       obtain rfl : (⟨go6, 0, none⟩ : Addr) = ad355 := (by injection e355)
       (first | simp only [add_plain] at hx355_0 | simp only [add_at] at hx355_0 | simp only [Addr.add, Nat.zero_add] at hx355_0 | skip)
       (first | simp only [add_plain] at hx355_1 | simp only [add_at] at hx355_1 | simp only [Addr.add, Nat.zero_add] at hx355_1 | skip)
       replace p355 := eq_true p355
       replace q355 := eq_true q355
       refine start_ (n := 7) (S := fun w' => w'.cell? ⟨gb354, 0, none⟩ = some (.int .i64 (wrap64 (((rd_T81 x5_2 ((rd_T36 l0_1 x23_2).f1)).f0) + ((rd_T36 l0_1 x23_2).f2)))) ∧ w'.cell? ⟨gb354, 1, none⟩ = some (.int .i64 (wrap64 (((rd_T81 x5_2 ((rd_T36 l0_1 x23_2).f1)).f1) + 1))) ∧ w'.cell? ⟨gb352, 0, none⟩ = some (.int .i64 ((rd_T36 l0_1 x23_2).f0)) ∧ w'.cell? ⟨gb352, 1, none⟩ = some (.int .i64 ((rd_T36 l0_1 x23_2).f1)) ∧ w'.cell? ⟨gb352, 2, none⟩ = some (.int .i64 ((rd_T36 l0_1 x23_2).f2)) ∧ w'.cell? ⟨gb352, 3, none⟩ = some (.int .i64 ((rd_T36 l0_1 x23_2).f3)) ∧ w'.cell? ⟨gb352, 4, none⟩ = some (.int .i64 ((rd_T36 l0_1 x23_2).f4)) ∧ w'.cell? ⟨go6, (((rd_T36 l0_1 x23_2).f0)).toNat * 2, none⟩ = some (.int .i64 ((rd_T81 x5_2 ((rd_T36 l0_1 x23_2).f0)).f0)) ∧ w'.cell? ⟨go6, (((rd_T36 l0_1 x23_2).f0)).toNat * 2 + 1, none⟩ = some (.int .i64 ((rd_T81 x5_2 ((rd_T36 l0_1 x23_2).f0)).f1))) (ds := []) #[false, false, false, false, false, false, false] (by kernel_rfl) rfl rfl ⟨ct_ BK354.out 0, ct_ BK354.out 1, ct_ BK352.out 0, ct_ BK352.out 1, ct_ BK352.out 2, ct_ BK352.out 3, ct_ BK352.out 4, hx355_0, hx355_1⟩ (fun hHeld => ?_)
       generalize w58.drew = w59 at HO_5 BK343 BK352 BK354 HB hx355_0 hx355_1 hHeld ⊢
       refine pure_ (i := 1) (N := some 45) (v := ?_) (a' := ?_) #[false, true, false, false, false, false, false] rfl rfl (by kernel_rfl) (fun _ _ _ h => h) (Or.inl ⟨by rfl, ?_⟩) ?_ ?_
       rotate_left
       ·intro w'
        go_simp
        with_reducible rfl
       rotate_left
       ·simp only [Act.put, List.setIfInBounds_toArray, List.set_cons_zero, List.set_cons_succ, i64_w, i32_w]
        rfl
       refine pure_ (i := 2) (N := some 46) (v := ?_) (a' := ?_) #[false, true, true, false, false, false, false] rfl rfl (by kernel_rfl) (fun _ _ _ h => h) (Or.inl ⟨by rfl, ?_⟩) ?_ ?_
       rotate_left
       ·intro w'
        go_simp
        with_reducible rfl
       rotate_left
       ·simp only [Act.put, List.setIfInBounds_toArray, List.set_cons_zero, List.set_cons_succ, i64_w, i32_w]
        rfl
       refine take_ (i := 0) (N := some 44) (v := ?_) (a' := ?_) #[true, true, true, false, false, false, false] rfl rfl (by kernel_rfl) (fun _ _ _ h => h) (Or.inl ⟨by rfl, ?_⟩) hHeld ?_ ?_
       rotate_left
       ·rintro w' ⟨s0, s1, s2, s3, s4, s5, s6, s7, s8⟩
        go_simp
        with_reducible rfl
       rotate_left
       ·simp only [Act.put, List.setIfInBounds_toArray, List.set_cons_zero, List.set_cons_succ, i64_w, i32_w]
        rfl
       refine take_ (i := 3) (N := some 47) (v := ?_) (a' := ?_) #[true, true, true, true, false, false, false] rfl rfl (by kernel_rfl) (fun _ _ _ h => h) (Or.inl ⟨by rfl, ?_⟩) hHeld ?_ ?_
       rotate_left
       ·rintro w' ⟨s0, s1, s2, s3, s4, s5, s6, s7, s8⟩
        go_simp
        with_reducible rfl
       rotate_left
       ·simp only [Act.put, List.setIfInBounds_toArray, List.set_cons_zero, List.set_cons_succ, i64_w, i32_w]
        rfl
       refine pure_ (i := 4) (N := some 48) (v := ?_) (a' := ?_) #[true, true, true, true, true, false, false] rfl rfl (by kernel_rfl) (fun _ _ _ h => h) (Or.inl ⟨by rfl, ?_⟩) ?_ ?_
       rotate_left
       ·intro w'
        go_simp
        with_reducible rfl
       rotate_left
       ·simp only [Act.put, List.setIfInBounds_toArray, List.set_cons_zero, List.set_cons_succ, i64_w, i32_w]
        rfl
       refine take_ (i := 5) (N := some 49) (v := ?_) (a' := ?_) #[true, true, true, true, true, true, false] rfl rfl (by kernel_rfl) (fun _ _ _ h => h) (Or.inl ⟨by rfl, ?_⟩) hHeld ?_ ?_
       rotate_left
       ·rintro w' ⟨s0, s1, s2, s3, s4, s5, s6, s7, s8⟩
        go_simp
        with_reducible rfl
       rotate_left
       ·simp only [Act.put, List.setIfInBounds_toArray, List.set_cons_zero, List.set_cons_succ, i64_w, i32_w]
        rfl
       refine one_ (i := 6) (N := some 50) #[true, true, true, true, true, true, true] rfl rfl (by kernel_rfl) (by decide) (fun K hK => ?_)
       refine go_ Try.func46 #[.agg #[.int .i64 (wrap64 (((rd_T81 x5_2 ((rd_T36 l0_1 x23_2).f1)).f0) + ((rd_T36 l0_1 x23_2).f2))), .int .i64 (wrap64 (((rd_T81 x5_2 ((rd_T36 l0_1 x23_2).f1)).f1) + 1))], .agg #[.int .i64 ((rd_T81 x5_2 ((rd_T36 l0_1 x23_2).f0)).f0), .int .i64 ((rd_T81 x5_2 ((rd_T36 l0_1 x23_2).f0)).f1)]] ?_
       with_reducible refine (impl_measure_less.calls (wrap64 (((rd_T81 x5_2 ((rd_T36 l0_1 x23_2).f1)).f0) + ((rd_T36 l0_1 x23_2).f2))) (wrap64 (((rd_T81 x5_2 ((rd_T36 l0_1 x23_2).f1)).f1) + 1)) ((rd_T81 x5_2 ((rd_T36 l0_1 x23_2).f0)).f0) ((rd_T81 x5_2 ((rd_T36 l0_1 x23_2).f0)).f1) false _ A32.out).mono ?_
       rintro e w60 ⟨rfl, hb⟩
       have HS7_ := (hb.cell (World.block_lt_of_cell? _ _ (hHeld.2.2.2.2.2.2.2.1))).trans (hHeld.2.2.2.2.2.2.2.1)
       have HS8_ := (hb.cell (World.block_lt_of_cell? _ _ (hHeld.2.2.2.2.2.2.2.2))).trans (hHeld.2.2.2.2.2.2.2.2)
       refine ⟨_, rfl, ?_⟩
       replace HO_5 := kR_ HO_5 hb
       replace BK343 := kb_ BK343 hb
       replace BK352 := kb_ BK352 hb
       replace BK354 := kb_ BK354 hb
       replace HB := kB_ HB hb
       (try clear hb)
       (try clear hb2)
       (try clear hk)
       (try clear hi)
       refine hK.out _ _ ⟨ct_ BK354.out 0, ct_ BK354.out 1, ct_ BK352.out 0, ct_ BK352.out 1, ct_ BK352.out 2, ct_ BK352.out 3, ct_ BK352.out 4, HS7_, HS8_⟩ (fun hHeld => ?_)
       clear hK K
       refine nm1_ (some 50) ?_
       refine done_ (by kernel_rfl) ?_
       try go_wp2
       (try simp only [← hl5_2])
       go_roundg k2
       case measure => have := HK1.out; have := HK2.out; omega
       case rel => exact ⟨(x5_2), (x6_2), (wrap64 (x23_2 + 1)), ns_, ns_, H', ⟨by have := HK1.out; have := HK2.out; omega⟩, ⟨by (try simp only [hl5_1]); (try simp only [hl5_2]); (with_reducible repeat (first | apply Kd.R_alloc | apply Kd.R_drewN | apply Kd.R_drew)); exact Kd.R_mono HO_5.out (fun _ hk => trivial)⟩, ⟨by (try simp only [hl5_1]); (try simp only [hl5_2]); (with_reducible repeat (first | refine blk_drewN ?_ _ | refine blk_drew ?_ | refine blk_alloc ?_ _)); exact BK343.out⟩, ⟨ne_ HB.out⟩⟩
      subst c33
      rw [if_pos rfl] at H
      obtain ⟨y357, hy357⟩ : ∃ y_ : List (S81), y_ = (x5_2.set (((rd_T36 l0_1 x23_2).f0) : Int).toNat (⟨wrap64 (((rd_T81 x5_2 ((rd_T36 l0_1 x23_2).f1)).f0) + ((rd_T36 l0_1 x23_2).f2)), wrap64 (((rd_T81 x5_2 ((rd_T36 l0_1 x23_2).f1)).f1) + 1)⟩ : S81)) := ⟨_, rfl⟩
      replace H : (impl_Net_toward.l1 k2 y357 true l0_1 (l0_1.length : Int) (wrap64 (x23_2 + 1)) a0_0 l0_1) = some r := by first | (rw [hy357]; with_reducible exact H) | (have H2_ := (Option.bind_some _ _).symm.trans H; rw [hy357]; with_reducible exact H2_) | (have H2_ := (Option.bind_some _ _).symm.trans H; with_reducible exact H2_) | with_reducible exact H | (rw [hy357]; exact H) | exact H
      have Ny357 := Aside0.mk hy357
      clear hy357
      have H' := Aside0.mk H
      clear H
      have p351 : 0 ≤ (x23_2 : Int) := of_decide_eq_true nx_
      have q351 : x23_2 < (l0_1.length : Int) := of_decide_eq_true nx_
      obtain ⟨ad351, e351, hx351_0, hx351_1, hx351_2, hx351_3, hx351_4⟩ := at_T36 HR0_1.out x23_2 p351 q351
      cases e351
      replace hx351_0 := hb_ HB.out hx351_0
      replace hx351_1 := hb_ HB.out hx351_1
      replace hx351_2 := hb_ HB.out hx351_2
      replace hx351_3 := hb_ HB.out hx351_3
      replace hx351_4 := hb_ HB.out hx351_4
      replace p351 := eq_true p351
      replace q351 := eq_true q351
      try go_wp2_with (first | ((with_reducible refine gate_dst (N := 8) rfl ?_); refine bx_ 8 #[.int .i64 0, .int .i64 0, .int .i64 0, .int .i64 0, .int .i64 0] 36 ?_; intro gb352 hg w35 hbox hb; have BK352 := Aside0.mk (hbox); have GW352 := Aside0.mk (zs_ hg (ne_ HB.out)); have GE352 := Aside0.mk (zs_ hg (ne_ HB.out)); have NB343_352 := Aside0.mk (nl_ BK343.out hg); have NB352_343 := Aside0.mk (nm_ BK343.out hg); replace HO_5 := kR_ HO_5 hb; replace BK343 := kb_ BK343 hb; replace HB := kB_ HB hb; clear hb hbox hg; have hnb36 := NB352_343.out; have hnc36 := NB343_352.out; obtain ⟨hcz37_0, hcz37_1, hcz37_2, hcz37_3, hcz37_4, hfz37_0, hfz37_1, hfz37_2, hfz37_3, hfz37_4⟩ := cz5_ BK352.out; have p353 : 0 ≤ (((rd_T36 l0_1 x23_2).f1) : Int) := of_decide_eq_true nx_; have q353 : ((rd_T36 l0_1 x23_2).f1) < (x5_2.length : Int) := of_decide_eq_true nx_; obtain ⟨ad353, e353, hx353_0, hx353_1⟩ := at_T81 (Kd.R_reads' HO_5.out).2.2 ((rd_T36 l0_1 x23_2).f1) p353 q353; obtain rfl : (⟨go6, 0, none⟩ : Addr) = ad353 := (by injection e353); (first | simp only [add_plain] at hx353_0 | simp only [add_at] at hx353_0 | simp only [Addr.add, Nat.zero_add] at hx353_0 | skip); (first | simp only [add_plain] at hx353_1 | simp only [add_at] at hx353_1 | simp only [Addr.add, Nat.zero_add] at hx353_1 | skip); have hn353_0 : (⟨go6, 0, none⟩ : Addr).block ≠ gb352 := Kd.own_blk (Kd.R_ne HO_5.out BK352.out (by decide)); have hn353_1 : (⟨go6, 0, none⟩ : Addr).block ≠ gb352 := Kd.own_blk (Kd.R_ne HO_5.out BK352.out (by decide)); have hn353_2 : (⟨go6, 0, none⟩ : Addr).block ≠ gb352 := Kd.own_blk (Kd.R_ne HO_5.out BK352.out (by decide)); have hn353_3 : (⟨go6, 0, none⟩ : Addr).block ≠ gb352 := Kd.own_blk (Kd.R_ne HO_5.out BK352.out (by decide)); have hn353_4 : (⟨go6, 0, none⟩ : Addr).block ≠ gb352 := Kd.own_blk (Kd.R_ne HO_5.out BK352.out (by decide)); replace hx353_0 := (cf39_ (g := gb352) (nf39_ hn353_0) (.int .i64 ((rd_T36 l0_1 x23_2).f0)) (.int .i64 ((rd_T36 l0_1 x23_2).f1)) (.int .i64 ((rd_T36 l0_1 x23_2).f2)) (.int .i64 ((rd_T36 l0_1 x23_2).f3)) (.int .i64 ((rd_T36 l0_1 x23_2).f4))).trans hx353_0; replace hx353_1 := (cf39_ (g := gb352) (nf39_ hn353_0) (.int .i64 ((rd_T36 l0_1 x23_2).f0)) (.int .i64 ((rd_T36 l0_1 x23_2).f1)) (.int .i64 ((rd_T36 l0_1 x23_2).f2)) (.int .i64 ((rd_T36 l0_1 x23_2).f3)) (.int .i64 ((rd_T36 l0_1 x23_2).f4))).trans hx353_1; clear hn353_0; clear hn353_1; clear hn353_2; clear hn353_3; clear hn353_4; replace p353 := eq_true p353; replace q353 := eq_true q353) | ((with_reducible refine gate_dst (N := 9) rfl ?_); refine bx_ 9 #[.int .i64 0, .int .i64 0] 81 ?_; intro gb354 hg w38 hbox hb; have BK354 := Aside0.mk (hbox); have GW354 := Aside0.mk (zs_ hg (ne_ HB.out)); have GE354 := Aside0.mk (zs_ hg (ne_ HB.out)); have NB343_354 := Aside0.mk (nl_ BK343.out hg); have NB354_343 := Aside0.mk (nm_ BK343.out hg); have NB352_354 := Aside0.mk (nl_ BK352.out hg); have NB354_352 := Aside0.mk (nm_ BK352.out hg); replace HO_5 := Aside0.mk (Kd.R_below (Kd.R_elderB (by (with_reducible repeat (first | apply Kd.R_alloc | apply Kd.R_drewN | apply Kd.R_drew)); exact (Kd.R_mono (rf5_ (Kd.R_types HO_5.out BK352.out (by decide))) (fun _ h_ => h_.1))) gb354 (Nat.le_of_eq hg.symm)) hb); replace BK343 := kf_ BK343 hb; replace BK352 := Aside0.mk (blk_below (g := gb352) (o := .cells #[.int .i64 ((rd_T36 l0_1 x23_2).f0), .int .i64 ((rd_T36 l0_1 x23_2).f1), .int .i64 ((rd_T36 l0_1 x23_2).f2), .int .i64 ((rd_T36 l0_1 x23_2).f3), .int .i64 ((rd_T36 l0_1 x23_2).f4)] 36 (0, 0)) (np_ BK352.out) hb); replace HB := kB_ HB hb; clear hb hbox hg; have hnb39 := NB354_343.out; have hnc39 := NB343_354.out; have hnb40 := NB354_352.out; have hnc40 := NB352_354.out; obtain ⟨hcz41_0, hcz41_1, hfz41_0, hfz41_1⟩ := cz2_ BK354.out; obtain ⟨hcz42_0, hcz42_1, hcz42_2, hcz42_3, hcz42_4, hfz42_0, hfz42_1, hfz42_2, hfz42_3, hfz42_4⟩ := cz5_ BK352.out))
      have n0_ : Aside0 (Kd.R k81 81 ((((w38.setCell ⟨gb354, 0, none⟩ (.int .i64 ((rd_T81 x5_2 ((rd_T36 l0_1 x23_2).f1)).f0))).setCell ⟨gb354, 1, none⟩ (.int .i64 ((rd_T81 x5_2 ((rd_T36 l0_1 x23_2).f1)).f1))).setCell ⟨gb354, 0, none⟩ (.int .i64 (wrap64 (((rd_T81 x5_2 ((rd_T36 l0_1 x23_2).f1)).f0) + ((rd_T36 l0_1 x23_2).f2))))).setCell ⟨gb354, 1, none⟩ (.int .i64 (wrap64 (((rd_T81 x5_2 ((rd_T36 l0_1 x23_2).f1)).f1) + 1)))) w.heap.size (fun k_ => k_ ≠ gb354) (.slice (some ⟨go6, 0, none⟩) x5_2.length co6) x5_2) := ⟨by (with_reducible repeat (first | apply Kd.R_alloc | apply Kd.R_drewN | apply Kd.R_drew)); exact Kd.R_mono (Kd.R_far (p := ⟨gb354, 1, none⟩) (Kd.R_far (p := ⟨gb354, 0, none⟩) (rf2_ (Kd.R_mono HO_5.out (fun k_ hk => (⟨hk, hk.2⟩ : _ ∧ k_ ≠ gb354)))) (fun _ hk => hk.2) (.int .i64 (wrap64 (((rd_T81 x5_2 ((rd_T36 l0_1 x23_2).f1)).f0) + ((rd_T36 l0_1 x23_2).f2))))) (fun _ hk => hk.2) (.int .i64 (wrap64 (((rd_T81 x5_2 ((rd_T36 l0_1 x23_2).f1)).f1) + 1)))) (fun _ hk => by first | exact hk.1.2 | trivial | simp_all)⟩
      have n1_ : Aside0 (((((w38.setCell ⟨gb354, 0, none⟩ (.int .i64 ((rd_T81 x5_2 ((rd_T36 l0_1 x23_2).f1)).f0))).setCell ⟨gb354, 1, none⟩ (.int .i64 ((rd_T81 x5_2 ((rd_T36 l0_1 x23_2).f1)).f1))).setCell ⟨gb354, 0, none⟩ (.int .i64 (wrap64 (((rd_T81 x5_2 ((rd_T36 l0_1 x23_2).f1)).f0) + ((rd_T36 l0_1 x23_2).f2))))).setCell ⟨gb354, 1, none⟩ (.int .i64 (wrap64 (((rd_T81 x5_2 ((rd_T36 l0_1 x23_2).f1)).f1) + 1)))).heap[gb343]? = some (.cells #[.int .i64 a0_0, .slice (some ad351) l0_1.length c0_1] 25 (0, 0))) := ⟨np_ BK343.out⟩
      have n2_ : Aside0 (((((w38.setCell ⟨gb354, 0, none⟩ (.int .i64 ((rd_T81 x5_2 ((rd_T36 l0_1 x23_2).f1)).f0))).setCell ⟨gb354, 1, none⟩ (.int .i64 ((rd_T81 x5_2 ((rd_T36 l0_1 x23_2).f1)).f1))).setCell ⟨gb354, 0, none⟩ (.int .i64 (wrap64 (((rd_T81 x5_2 ((rd_T36 l0_1 x23_2).f1)).f0) + ((rd_T36 l0_1 x23_2).f2))))).setCell ⟨gb354, 1, none⟩ (.int .i64 (wrap64 (((rd_T81 x5_2 ((rd_T36 l0_1 x23_2).f1)).f1) + 1)))).heap[gb352]? = some (.cells #[.int .i64 ((rd_T36 l0_1 x23_2).f0), .int .i64 ((rd_T36 l0_1 x23_2).f1), .int .i64 ((rd_T36 l0_1 x23_2).f2), .int .i64 ((rd_T36 l0_1 x23_2).f3), .int .i64 ((rd_T36 l0_1 x23_2).f4)] 36 (0, 0))) := ⟨np_ BK352.out⟩
      have n3_ : Aside0 (((((w38.setCell ⟨gb354, 0, none⟩ (.int .i64 ((rd_T81 x5_2 ((rd_T36 l0_1 x23_2).f1)).f0))).setCell ⟨gb354, 1, none⟩ (.int .i64 ((rd_T81 x5_2 ((rd_T36 l0_1 x23_2).f1)).f1))).setCell ⟨gb354, 0, none⟩ (.int .i64 (wrap64 (((rd_T81 x5_2 ((rd_T36 l0_1 x23_2).f1)).f0) + ((rd_T36 l0_1 x23_2).f2))))).setCell ⟨gb354, 1, none⟩ (.int .i64 (wrap64 (((rd_T81 x5_2 ((rd_T36 l0_1 x23_2).f1)).f1) + 1)))).heap[gb354]? = some (.cells #[.int .i64 (wrap64 (((rd_T81 x5_2 ((rd_T36 l0_1 x23_2).f1)).f0) + ((rd_T36 l0_1 x23_2).f2))), .int .i64 (wrap64 (((rd_T81 x5_2 ((rd_T36 l0_1 x23_2).f1)).f1) + 1))] 81 (0, 0))) := ⟨np_ BK354.out⟩
      have n4_ : Aside0 (Below w.heap.size w ((((w38.setCell ⟨gb354, 0, none⟩ (.int .i64 ((rd_T81 x5_2 ((rd_T36 l0_1 x23_2).f1)).f0))).setCell ⟨gb354, 1, none⟩ (.int .i64 ((rd_T81 x5_2 ((rd_T36 l0_1 x23_2).f1)).f1))).setCell ⟨gb354, 0, none⟩ (.int .i64 (wrap64 (((rd_T81 x5_2 ((rd_T36 l0_1 x23_2).f1)).f0) + ((rd_T36 l0_1 x23_2).f2))))).setCell ⟨gb354, 1, none⟩ (.int .i64 (wrap64 (((rd_T81 x5_2 ((rd_T36 l0_1 x23_2).f1)).f1) + 1))))) := ⟨ne_ HB.out⟩
      (try clear HO_5)
      (try clear BK343)
      (try clear BK352)
      (try clear BK354)
      (try clear HB)
      generalize ((((w38.setCell ⟨gb354, 0, none⟩ (.int .i64 ((rd_T81 x5_2 ((rd_T36 l0_1 x23_2).f1)).f0))).setCell ⟨gb354, 1, none⟩ (.int .i64 ((rd_T81 x5_2 ((rd_T36 l0_1 x23_2).f1)).f1))).setCell ⟨gb354, 0, none⟩ (.int .i64 (wrap64 (((rd_T81 x5_2 ((rd_T36 l0_1 x23_2).f1)).f0) + ((rd_T36 l0_1 x23_2).f2))))).setCell ⟨gb354, 1, none⟩ (.int .i64 (wrap64 (((rd_T81 x5_2 ((rd_T36 l0_1 x23_2).f1)).f1) + 1)))) = w43 at n0_ n1_ n2_ n3_ n4_ ⊢
      have HO_5 := n0_
      have BK343 := n1_
      have BK352 := n2_
      have BK354 := n3_
      have HB := n4_
      clear n0_ n1_ n2_ n3_ n4_
      replace HO_5 := Aside0.mk (Kd.R_drew HO_5.out)
      replace BK343 := Aside0.mk (blk_drew BK343.out)
      replace BK352 := Aside0.mk (blk_drew BK352.out)
      replace BK354 := Aside0.mk (blk_drew BK354.out)
      replace HB := Aside0.mk (below_drew1 HB.out)
      have p355 : 0 ≤ (((rd_T36 l0_1 x23_2).f0) : Int) := of_decide_eq_true nx_
      have q355 : ((rd_T36 l0_1 x23_2).f0) < (x5_2.length : Int) := of_decide_eq_true nx_
      obtain ⟨ad355, e355, hx355_0, hx355_1⟩ := at_T81 (Kd.R_reads' HO_5.out).2.2 ((rd_T36 l0_1 x23_2).f0) p355 q355
      obtain rfl : (⟨go6, 0, none⟩ : Addr) = ad355 := (by injection e355)
      (first | simp only [add_plain] at hx355_0 | simp only [add_at] at hx355_0 | simp only [Addr.add, Nat.zero_add] at hx355_0 | skip)
      (first | simp only [add_plain] at hx355_1 | simp only [add_at] at hx355_1 | simp only [Addr.add, Nat.zero_add] at hx355_1 | skip)
      replace p355 := eq_true p355
      replace q355 := eq_true q355
      refine start_ (n := 7) (S := fun w' => w'.cell? ⟨gb354, 0, none⟩ = some (.int .i64 (wrap64 (((rd_T81 x5_2 ((rd_T36 l0_1 x23_2).f1)).f0) + ((rd_T36 l0_1 x23_2).f2)))) ∧ w'.cell? ⟨gb354, 1, none⟩ = some (.int .i64 (wrap64 (((rd_T81 x5_2 ((rd_T36 l0_1 x23_2).f1)).f1) + 1))) ∧ w'.cell? ⟨gb352, 0, none⟩ = some (.int .i64 ((rd_T36 l0_1 x23_2).f0)) ∧ w'.cell? ⟨gb352, 1, none⟩ = some (.int .i64 ((rd_T36 l0_1 x23_2).f1)) ∧ w'.cell? ⟨gb352, 2, none⟩ = some (.int .i64 ((rd_T36 l0_1 x23_2).f2)) ∧ w'.cell? ⟨gb352, 3, none⟩ = some (.int .i64 ((rd_T36 l0_1 x23_2).f3)) ∧ w'.cell? ⟨gb352, 4, none⟩ = some (.int .i64 ((rd_T36 l0_1 x23_2).f4)) ∧ w'.cell? ⟨go6, (((rd_T36 l0_1 x23_2).f0)).toNat * 2, none⟩ = some (.int .i64 ((rd_T81 x5_2 ((rd_T36 l0_1 x23_2).f0)).f0)) ∧ w'.cell? ⟨go6, (((rd_T36 l0_1 x23_2).f0)).toNat * 2 + 1, none⟩ = some (.int .i64 ((rd_T81 x5_2 ((rd_T36 l0_1 x23_2).f0)).f1))) (ds := []) #[false, false, false, false, false, false, false] (by kernel_rfl) rfl rfl ⟨ct_ BK354.out 0, ct_ BK354.out 1, ct_ BK352.out 0, ct_ BK352.out 1, ct_ BK352.out 2, ct_ BK352.out 3, ct_ BK352.out 4, hx355_0, hx355_1⟩ (fun hHeld => ?_)
      generalize w43.drew = w44 at HO_5 BK343 BK352 BK354 HB hx355_0 hx355_1 hHeld ⊢
      refine pure_ (i := 1) (N := some 45) (v := ?_) (a' := ?_) #[false, true, false, false, false, false, false] rfl rfl (by kernel_rfl) (fun _ _ _ h => h) (Or.inl ⟨by rfl, ?_⟩) ?_ ?_
      rotate_left
      ·intro w'
       go_simp
       with_reducible rfl
      rotate_left
      ·simp only [Act.put, List.setIfInBounds_toArray, List.set_cons_zero, List.set_cons_succ, i64_w, i32_w]
       rfl
      refine pure_ (i := 2) (N := some 46) (v := ?_) (a' := ?_) #[false, true, true, false, false, false, false] rfl rfl (by kernel_rfl) (fun _ _ _ h => h) (Or.inl ⟨by rfl, ?_⟩) ?_ ?_
      rotate_left
      ·intro w'
       go_simp
       with_reducible rfl
      rotate_left
      ·simp only [Act.put, List.setIfInBounds_toArray, List.set_cons_zero, List.set_cons_succ, i64_w, i32_w]
       rfl
      refine take_ (i := 0) (N := some 44) (v := ?_) (a' := ?_) #[true, true, true, false, false, false, false] rfl rfl (by kernel_rfl) (fun _ _ _ h => h) (Or.inl ⟨by rfl, ?_⟩) hHeld ?_ ?_
      rotate_left
      ·rintro w' ⟨s0, s1, s2, s3, s4, s5, s6, s7, s8⟩
       go_simp
       with_reducible rfl
      rotate_left
      ·simp only [Act.put, List.setIfInBounds_toArray, List.set_cons_zero, List.set_cons_succ, i64_w, i32_w]
       rfl
      refine take_ (i := 3) (N := some 47) (v := ?_) (a' := ?_) #[true, true, true, true, false, false, false] rfl rfl (by kernel_rfl) (fun _ _ _ h => h) (Or.inl ⟨by rfl, ?_⟩) hHeld ?_ ?_
      rotate_left
      ·rintro w' ⟨s0, s1, s2, s3, s4, s5, s6, s7, s8⟩
       go_simp
       with_reducible rfl
      rotate_left
      ·simp only [Act.put, List.setIfInBounds_toArray, List.set_cons_zero, List.set_cons_succ, i64_w, i32_w]
       rfl
      refine pure_ (i := 4) (N := some 48) (v := ?_) (a' := ?_) #[true, true, true, true, true, false, false] rfl rfl (by kernel_rfl) (fun _ _ _ h => h) (Or.inl ⟨by rfl, ?_⟩) ?_ ?_
      rotate_left
      ·intro w'
       go_simp
       with_reducible rfl
      rotate_left
      ·simp only [Act.put, List.setIfInBounds_toArray, List.set_cons_zero, List.set_cons_succ, i64_w, i32_w]
       rfl
      refine take_ (i := 5) (N := some 49) (v := ?_) (a' := ?_) #[true, true, true, true, true, true, false] rfl rfl (by kernel_rfl) (fun _ _ _ h => h) (Or.inl ⟨by rfl, ?_⟩) hHeld ?_ ?_
      rotate_left
      ·rintro w' ⟨s0, s1, s2, s3, s4, s5, s6, s7, s8⟩
       go_simp
       with_reducible rfl
      rotate_left
      ·simp only [Act.put, List.setIfInBounds_toArray, List.set_cons_zero, List.set_cons_succ, i64_w, i32_w]
       rfl
      refine one_ (i := 6) (N := some 50) #[true, true, true, true, true, true, true] rfl rfl (by kernel_rfl) (by decide) (fun K hK => ?_)
      refine go_ Try.func46 #[.agg #[.int .i64 (wrap64 (((rd_T81 x5_2 ((rd_T36 l0_1 x23_2).f1)).f0) + ((rd_T36 l0_1 x23_2).f2))), .int .i64 (wrap64 (((rd_T81 x5_2 ((rd_T36 l0_1 x23_2).f1)).f1) + 1))], .agg #[.int .i64 ((rd_T81 x5_2 ((rd_T36 l0_1 x23_2).f0)).f0), .int .i64 ((rd_T81 x5_2 ((rd_T36 l0_1 x23_2).f0)).f1)]] ?_
      with_reducible refine (impl_measure_less.calls (wrap64 (((rd_T81 x5_2 ((rd_T36 l0_1 x23_2).f1)).f0) + ((rd_T36 l0_1 x23_2).f2))) (wrap64 (((rd_T81 x5_2 ((rd_T36 l0_1 x23_2).f1)).f1) + 1)) ((rd_T81 x5_2 ((rd_T36 l0_1 x23_2).f0)).f0) ((rd_T81 x5_2 ((rd_T36 l0_1 x23_2).f0)).f1) true _ A32.out).mono ?_
      rintro e w45 ⟨rfl, hb⟩
      have HS7_ := (hb.cell (World.block_lt_of_cell? _ _ (hHeld.2.2.2.2.2.2.2.1))).trans (hHeld.2.2.2.2.2.2.2.1)
      have HS8_ := (hb.cell (World.block_lt_of_cell? _ _ (hHeld.2.2.2.2.2.2.2.2))).trans (hHeld.2.2.2.2.2.2.2.2)
      refine ⟨_, rfl, ?_⟩
      replace HO_5 := kR_ HO_5 hb
      replace BK343 := kb_ BK343 hb
      replace BK352 := kb_ BK352 hb
      replace BK354 := kb_ BK354 hb
      replace HB := kB_ HB hb
      (try clear hb)
      (try clear hb2)
      (try clear hk)
      (try clear hi)
      refine hK.out _ _ ⟨ct_ BK354.out 0, ct_ BK354.out 1, ct_ BK352.out 0, ct_ BK352.out 1, ct_ BK352.out 2, ct_ BK352.out 3, ct_ BK352.out 4, HS7_, HS8_⟩ (fun hHeld => ?_)
      clear hK K
      refine nm1_ (some 50) ?_
      refine done_ (by kernel_rfl) ?_
      obtain ⟨hcz46_0, hcz46_1, hcz46_2, hcz46_3, hcz46_4, hfz46_0, hfz46_1, hfz46_2, hfz46_3, hfz46_4⟩ := cz5_ BK352.out
      obtain ⟨hcz47_0, hcz47_1, hfz47_0, hfz47_1⟩ := cz2_ BK354.out
      have p34 : 0 ≤ (((rd_T36 l0_1 x23_2).f0) : Int) := of_decide_eq_true nx_
      have q34 : (((rd_T36 l0_1 x23_2).f0) : Int) < ((x5_2.length : Int) : Int) := of_decide_eq_true nx_
      obtain ⟨ce34, hcl34, hM34, hcc34, hfr34⟩ := Kd.R_elem HO_5.out z81 (((rd_T36 l0_1 x23_2).f0) : Int) p34 q34
      obtain rfl := k81_openM hM34
      have hx34_0 : w45.cell? ⟨go6, (((rd_T36 l0_1 x23_2).f0) : Int).toNat * 2, none⟩ = some (.int .i64 ((rd_T81 x5_2 ((rd_T36 l0_1 x23_2).f0)).f0)) := hcc34 0 _ rfl
      have hx34_1 : w45.cell? ⟨go6, (((rd_T36 l0_1 x23_2).f0) : Int).toNat * 2 + 1, none⟩ = some (.int .i64 ((rd_T81 x5_2 ((rd_T36 l0_1 x23_2).f0)).f1)) := hcc34 1 _ rfl
      have hf34_0 : w45.frozen? ⟨go6, (((rd_T36 l0_1 x23_2).f0) : Int).toNat * 2, none⟩ = false := hfr34 0
      have hf34_1 : w45.frozen? ⟨go6, (((rd_T36 l0_1 x23_2).f0) : Int).toNat * 2 + 1, none⟩ = false := hfr34 1
      clear hcl34 hcc34 hfr34 hM34
      replace p34 := eq_true p34
      replace q34 := eq_true q34
      have HX48 := Aside0.mk (show Kd.R k81 81 w45 w.heap.size (fun k_ => k_ ≠ gb354) (.slice (some ⟨go6, 0, none⟩) x5_2.length co6) x5_2 from (nr_ HO_5.out))
      obtain ⟨ce48, hcl48, hM48, hcc48, hfr48⟩ := Kd.R_elem HX48.out z81 (((rd_T36 l0_1 x23_2).f0) : Int) (of_decide_eq_true nx_) (by have h_ : (((rd_T36 l0_1 x23_2).f0) : Int) < ((x5_2.length : Int) : Int) := of_decide_eq_true nx_; first | exact h_ | (have e_ := (Kd.R_reads' HO_5.out).1; omega) | simpa using h_)
      obtain rfl := k81_openM hM48
      have HP48 := Kd.R_seg HX48.out (((rd_T36 l0_1 x23_2).f0) : Int) (of_decide_eq_true nx_) (by have h_ : (((rd_T36 l0_1 x23_2).f0) : Int) < ((x5_2.length : Int) : Int) := of_decide_eq_true nx_; first | exact h_ | (have e_ := (Kd.R_reads' HO_5.out).1; omega) | simpa using h_) (seg := [.int .i64 (wrap64 (((rd_T81 x5_2 ((rd_T36 l0_1 x23_2).f1)).f0) + ((rd_T36 l0_1 x23_2).f2))), .int .i64 (wrap64 (((rd_T81 x5_2 ((rd_T36 l0_1 x23_2).f1)).f1) + 1))]) (j := 0) hcl48 hcc48 (show 2 ≤ 2 from by decide) (x' := (⟨wrap64 (((rd_T81 x5_2 ((rd_T36 l0_1 x23_2).f1)).f0) + ((rd_T36 l0_1 x23_2).f2)), wrap64 (((rd_T81 x5_2 ((rd_T36 l0_1 x23_2).f1)).f1) + 1)⟩ : S81)) (k81_mkM _ _ _ (⟨wrap64 (((rd_T81 x5_2 ((rd_T36 l0_1 x23_2).f1)).f0) + ((rd_T36 l0_1 x23_2).f2)), wrap64 (((rd_T81 x5_2 ((rd_T36 l0_1 x23_2).f1)).f1) + 1)⟩ : S81) ) (fun _ hk => hk)
      have hx48_0 := hcc48 0 _ rfl
      (try simp only [show (k81).sz = 2 from rfl, Nat.mul_one, Nat.add_zero] at hx48_0)
      have hf48_0 := hfr48 0
      (try simp only [show (k81).sz = 2 from rfl, Nat.mul_one, Nat.add_zero] at hf48_0)
      have hx48_1 := hcc48 1 _ rfl
      (try simp only [show (k81).sz = 2 from rfl, Nat.mul_one, Nat.add_zero] at hx48_1)
      have hf48_1 := hfr48 1
      (try simp only [show (k81).sz = 2 from rfl, Nat.mul_one, Nat.add_zero] at hf48_1)
      clear hcl48 hcc48 hfr48 hM48
      try go_wp2_with (first | ((with_reducible refine gate_store (t := 81) (p := 55) rfl ?_); refine store_event (t := 81) (p := 55) (v := ?vo_w49) (w1 := ((w45.setCell ⟨go6, (((rd_T36 l0_1 x23_2).f0) : Int).toNat * 2, none⟩ (.int .i64 (wrap64 (((rd_T81 x5_2 ((rd_T36 l0_1 x23_2).f1)).f0) + ((rd_T36 l0_1 x23_2).f2))))).setCell ⟨go6, (((rd_T36 l0_1 x23_2).f0) : Int).toNat * 2 + 1, none⟩ (.int .i64 (wrap64 (((rd_T81 x5_2 ((rd_T36 l0_1 x23_2).f1)).f1) + 1))))) ?hg ?ho ?hn ?hr ?_; (case ho => rfl); (case hg => rfl); (case hn => rfl); (case hr => first | (go_simp; done) | (go_simp; rfl)); intro w49 hw; have hg : w45.grownBy w49 (some go6) := (by rw [hw]; exact HP48.2); have hp_ : Kd.R k81 81 w49 w.heap.size (fun k_ => k_ ≠ gb354) (.slice (some ⟨go6, 0, none⟩) x5_2.length co6) y357 := (by rw [hw, Ny357.out]; exact HP48.1); clear HP48; replace BK343 := Aside0.mk (blk_grown (g := gb343) (o := .cells #[.int .i64 a0_0, .slice (some ad351) l0_1.length c0_1] 25 (0, 0)) (nb_ BK343.out) hg (Kd.R_ne HO_5.out BK343.out (by decide))); replace BK352 := Aside0.mk (blk_grown (g := gb352) (o := .cells #[.int .i64 ((rd_T36 l0_1 x23_2).f0), .int .i64 ((rd_T36 l0_1 x23_2).f1), .int .i64 ((rd_T36 l0_1 x23_2).f2), .int .i64 ((rd_T36 l0_1 x23_2).f3), .int .i64 ((rd_T36 l0_1 x23_2).f4)] 36 (0, 0)) (nb_ BK352.out) hg (Kd.R_ne HO_5.out BK352.out (by decide))); replace BK354 := Aside0.mk (blk_grown (g := gb354) (o := .cells #[.int .i64 (wrap64 (((rd_T81 x5_2 ((rd_T36 l0_1 x23_2).f1)).f0) + ((rd_T36 l0_1 x23_2).f2))), .int .i64 (wrap64 (((rd_T81 x5_2 ((rd_T36 l0_1 x23_2).f1)).f1) + 1))] 81 (0, 0)) (nb_ BK354.out) hg (Kd.R_away HO_5.out (fun _ hk => hk))); replace HO_5 := Aside0.mk (hp_); replace HB := Aside0.mk ((by rw [hw]; exact below_set (below_set (HB.out) GB6.out) GB6.out : Below w.heap.size w w49)); clear hg hw hp_))
      (try simp only [← hl5_2])
      go_roundg k2
      case measure => have := HK1.out; have := HK2.out; omega
      case rel => exact ⟨(y357), (true), (wrap64 (x23_2 + 1)), ns_, ns_, H', ⟨by have := HK1.out; have := HK2.out; omega⟩, ⟨by (try simp only [hl5_1]); (try simp only [hl5_2]); (with_reducible repeat (first | apply Kd.R_alloc | apply Kd.R_drewN | apply Kd.R_drew)); exact Kd.R_mono HO_5.out (fun _ hk => trivial)⟩, ⟨by (try simp only [hl5_1]); (try simp only [hl5_2]); (with_reducible repeat (first | refine blk_drewN ?_ _ | refine blk_drew ?_ | refine blk_alloc ?_ _)); exact BK343.out⟩, ⟨ne_ HB.out⟩⟩
end Go.Proofs.Ytfijdkjibjdbiaa.Print
