-- Made by this session's own program (wip/patch_print.py, over the kit's print). Lean checks it.
import Derived.Test.YtbmoonciggfbpaaPrint0
namespace Go.Proofs.Ytbmoonciggfbpaa.Print
open Go.RowKit Go.Proofs.YtbmoonciggfbpaaW.PrintWords Go.Proofs.YtbmoonciggfbpaaW.PrintLast Go.Proofs.YtbmoonciggfbpaaW.PrintMore Go.Proofs.YtbmoonciggfbpaaX
attribute [local go_sem] max2_int min2_int max_two min_two max_three min_three max_four min_four   -- for this text's walks alone
set_option linter.unusedVariables false
set_option linter.unusedSimpArgs false

/-! ### spec_l1Back: function 45 -/
def spec_l1Back.l0 : Nat → Int → Int → List (S33) → Int → List (S33) → Option (Int × (List (S33)))
  | 0, _, _, _, _, _ => none
  | k + 1, x4, x372000, x372001, x374000, x374001 => if x4 < (x372001.length : Int) then (if 0 ≤ x4 then (if x374001.length < 3518437208883 then (spec_l1Back.l0 k (wrap64 (x4 + 1)) x372000 x372001 x374000 (x374001 ++ [(⟨(rd_T33 x372001 x4).f1, (rd_T33 x372001 x4).f0, (rd_T33 x372001 x4).f2, (rd_T33 x372001 x4).f3, (rd_T33 x372001 x4).f4⟩ : S33)])) else (none)) else (none)) else (some (x374000, x374001))
def spec_l1Back.f (k : Nat) (a0_0 : Int) (l0_1 : List (S33)) : Option (Int × (List (S33))) := spec_l1Back.l0 k 0 a0_0 l0_1 a0_0 ([] : List (S33))
theorem spec_l1Back.mono_l : ∀ k, (∀ y0 y1 y2 y3 y4, LeO (spec_l1Back.l0 k y0 y1 y2 y3 y4) (spec_l1Back.l0 (k + 1) y0 y1 y2 y3 y4))
  | 0 => fun _ _ _ _ _ r h => by simp [spec_l1Back.l0] at h
  | k + 1 => by
    have ih0 := spec_l1Back.mono_l k
    · intro y0 y1 y2 y3 y4
      unfold spec_l1Back.l0
      repeat' first | (with_reducible first | exact ih0 _ _ _ _ _ | exact LeO.refl _ | exact LeO.none _ | refine LeO.ite ?_ ?_ | refine LeO.bind ?_ (fun _ => ?_)) | exact ih0 _ _ _ _ _ | exact LeO.none _ | refine LeO.ite ?_ ?_ | refine LeO.bind ?_ (fun _ => ?_)
theorem spec_l1Back.mono : ∀ a0 a1 k, LeO (spec_l1Back.f k a0 a1) (spec_l1Back.f (k + 1) a0 a1) := by
  intro a0 a1 k
  have ih0 := spec_l1Back.mono_l k
  unfold spec_l1Back.f
  repeat' first | (with_reducible first | exact ih0 _ _ _ _ _ | exact LeO.refl _ | exact LeO.none _ | refine LeO.ite ?_ ?_ | refine LeO.bind ?_ (fun _ => ?_)) | exact ih0 _ _ _ _ _ | exact LeO.none _ | refine LeO.ite ?_ ?_ | refine LeO.bind ?_ (fun _ => ?_)
set_option maxHeartbeats 200000000 in
set_option maxRecDepth 100000 in
theorem spec_l1Back.calls (k : Nat) (a0_0 : Int) (A0_1 : Option Addr) (c0_1 : Nat) (l0_1 : List (S33)) (r1 : Int) (r2 : List (S33)) (w : World) (hr0_1 : Kd.C k33 w A0_1 l0_1.length l0_1) (hc0_1 : l0_1.length ≤ c0_1) (h : spec_l1Back.f k a0_0 l0_1 = some (r1, r2)) :
    Calls Try.prog 45 #[.agg #[.int .i64 a0_0, .slice A0_1 l0_1.length c0_1]] w fun e w' => ∃ v1_ : Value, e = .returned (.agg #[.int .i64 r1, v1_]) ∧ Kd.R k33 33 w' w.heap.size (fun _ => True) v1_ r2 ∧ Below w.heap.size w w' := by
  have hu25 := Try.underlying25
  have hu33 := Try.underlying33
  have HR0_1 := Aside0.mk hr0_1
  have HC0_1 := Aside0.mk hc0_1
  clear hr0_1 hc0_1
  have HB := Aside0.mk (Below.refl w.heap.size w)
  have H : (spec_l1Back.l0 k 0 a0_0 l0_1 a0_0 ([] : List (S33))) = some (r1, r2) := h
  clear h
  have H' := Aside0.mk H
  clear H
  go_enter Try.func45, Try.ntmps45
  go_wp2_with (first | ((with_reducible refine gate_dst (N := 1) rfl ?_); refine bx_ 1 #[.int .i64 a0_0, .slice A0_1 l0_1.length c0_1] 25 ?_; intro gb371 hg w2 hbox hb; have BK371 := Aside0.mk (hbox); have GW371 := Aside0.mk (zs_ hg (ne_ HB.out)); have GE371 := Aside0.mk (zs_ hg (ne_ HB.out)); replace HB := kB_ HB hb; clear hb hbox hg) | ((with_reducible refine gate_dst (N := 2) rfl ?_); refine bx_ 2 #[.int .i64 0, .slice none 0 0] 25 ?_; intro gb372 hg w3 hbox hb; have BK372 := Aside0.mk (hbox); have GW372 := Aside0.mk (zs_ hg (ne_ HB.out)); have GE372 := Aside0.mk (zs_ hg (ne_ HB.out)); have NB371_372 := Aside0.mk (nl_ BK371.out hg); have NB372_371 := Aside0.mk (nm_ BK371.out hg); replace BK371 := kb_ BK371 hb; replace HB := kB_ HB hb; clear hb hbox hg; have hnb4 := NB371_372.out; have hnc4 := NB372_371.out; obtain ⟨hcz5_0, hcz5_1, hfz5_0, hfz5_1⟩ := cz2_ BK371.out) | ((with_reducible refine gate_dst (N := 3) rfl ?_); refine bx_ 3 #[.int .i64 0, .slice none 0 0] 25 ?_; intro gb373 hg w6 hbox hb; have BK373 := Aside0.mk (hbox); have GW373 := Aside0.mk (zs_ hg (ne_ HB.out)); have GE373 := Aside0.mk (zs_ hg (ne_ HB.out)); have NB371_373 := Aside0.mk (nl_ BK371.out hg); have NB373_371 := Aside0.mk (nm_ BK371.out hg); have NB372_373 := Aside0.mk (nl_ BK372.out hg); have NB373_372 := Aside0.mk (nm_ BK372.out hg); replace BK371 := kb_ BK371 hb; replace BK372 := kb_ BK372 hb; replace HB := kB_ HB hb; clear hb hbox hg; have hnb7 := NB373_371.out; have hnc7 := NB371_373.out; have hnb8 := NB373_372.out; have hnc8 := NB372_373.out; obtain ⟨hcz9_0, hcz9_1, hfz9_0, hfz9_1⟩ := cz2_ BK373.out))
  go_loopg [4] k (fun kq v4 w' => ∃ (x4_1 : Int) (x374001_1 : List (S33)) (u374001 : Value), v4 = .int .i64 x4_1 ∧ Aside0 (spec_l1Back.l0 kq x4_1 a0_0 l0_1 a0_0 x374001_1 = some (r1, r2)) ∧ Aside0 (kq ≤ k) ∧ Aside0 (Kd.R k33 33 w' w.heap.size (fun _ => True) u374001 x374001_1) ∧ Aside0 (w'.heap[gb371]? = some (.cells #[.int .i64 a0_0, (.slice A0_1 l0_1.length c0_1)] 25 (0, 0))) ∧ Aside0 (w'.heap[gb372]? = some (.cells #[.int .i64 0, (.slice none 0 0)] 25 (0, 0))) ∧ Aside0 (w'.heap[gb373]? = some (.cells #[.int .i64 a0_0, u374001] 25 (0, 0))) ∧ Aside0 (Below w.heap.size w w'))
  case atStart => exact ⟨(0), (([] : List (S33))), (.slice none 0 0), ns_, H', ⟨Nat.le_refl _⟩, ⟨by first | exact Kd.R_nil _ _ _ _ _ | exact Kd.N_nil _ _ _ _ _ | exact Kd.V_nil _ _ _ _ _ | exact Kd.Q_nil _ _ _ _ _ | exact Kd.S_nil _ _ _ _ _⟩, ⟨np_ BK371.out⟩, ⟨np_ BK372.out⟩, ⟨np_ BK373.out⟩, ⟨ne_ HB.out⟩⟩
  case round =>
   clear H'
   try clear p2
   try clear c4
   try clear c7
   try clear c8
   try clear hcz5_0
   try clear hcz5_1
   try clear hcz9_0
   try clear hcz9_1
   try clear hfz5_0
   try clear hfz5_1
   try clear hfz9_0
   try clear hfz9_1
   obtain ⟨x4_1, x374001_1, u374001, rfl, HA, HK1, HO_374001, BK371, BK372, BK373, HB⟩ := hrel
   cases gk with
   | zero => exact absurd HA.out (by simp [spec_l1Back.l0])
   | succ k1 =>
    have H := HA.out
    clear HA
    simp only [spec_l1Back.l0] at H
    by_cases c10 : x4_1 < (l0_1.length : Int)
    rotate_left
    ·rw [if_neg c10] at H
     have c10b0 : decide (x4_1 < (l0_1.length : Int)) = false := decide_eq_false c10
     clear c10
     simp only [Option.some.injEq, Prod.mk.injEq] at H
     obtain ⟨rfl, rfl⟩ := H
     have hnb26 := NB371_372.out
     have hnc26 := NB372_371.out
     have hnb27 := NB371_373.out
     have hnc27 := NB373_371.out
     obtain ⟨hcz28_0, hcz28_1, hfz28_0, hfz28_1⟩ := cz2_ BK371.out
     have hnb29 := NB373_372.out
     have hnc29 := NB372_373.out
     obtain ⟨hcz30_0, hcz30_1, hfz30_0, hfz30_1⟩ := cz2_ BK373.out
     obtain ⟨hcz31_0, hcz31_1, hfz31_0, hfz31_1⟩ := cz2_ BK372.out
     obtain ⟨Ao32, co32, eo32⟩ := Kd.R_slice HO_374001.out
     subst eo32
     go_wp2
     refine bodyPost_ret (results_cell_row rfl _ _ gb372 25 #[.int .i64 a0_0, .slice Ao32 x374001_1.length co32] (0, 0) _ rfl (np_ BK372.out) Try.underlying25 rfl (by kernel_rfl)) rfl ?_
     exact ⟨_, nw_, by (with_reducible repeat (first | apply Kd.R_alloc | apply Kd.R_drewN | apply Kd.R_drew)); exact Kd.R_mono (rf2_ (Kd.R_types HO_374001.out BK372.out (by decide))) (fun _ hk => trivial), ne_ HB.out⟩

    rw [if_pos c10] at H
    have c10b0 : decide (x4_1 < (l0_1.length : Int)) = true := decide_eq_true c10
    clear c10
    by_cases c11 : 0 ≤ x4_1
    rotate_left
    ·rw [if_neg c11] at H
     exact absurd H (by simp)
    rw [if_pos c11] at H
    have c11b0 : decide (0 ≤ x4_1) = true := decide_eq_true c11
    clear c11
    by_cases c12 : x374001_1.length < 3518437208883
    rotate_left
    ·rw [if_neg c12] at H
     exact absurd H (by simp)
    rw [if_pos c12] at H
    have LMc12 := Aside0.mk c12
    clear c12
    obtain ⟨y376, hy376⟩ : ∃ y_ : List (S33), y_ = (x374001_1 ++ [(⟨(rd_T33 l0_1 x4_1).f1, (rd_T33 l0_1 x4_1).f0, (rd_T33 l0_1 x4_1).f2, (rd_T33 l0_1 x4_1).f3, (rd_T33 l0_1 x4_1).f4⟩ : S33)]) := ⟨_, rfl⟩
    replace H : (spec_l1Back.l0 k1 (wrap64 (x4_1 + 1)) a0_0 l0_1 a0_0 y376) = some (r1, r2) := by first | (rw [hy376]; with_reducible exact H) | (have H2_ := (Option.bind_some _ _).symm.trans H; rw [hy376]; with_reducible exact H2_) | (have H2_ := (Option.bind_some _ _).symm.trans H; with_reducible exact H2_) | with_reducible exact H | (rw [hy376]; exact H) | exact H
    have Ny376 := Aside0.mk hy376
    clear hy376
    have H' := Aside0.mk H
    clear H
    have hnb13 := NB371_372.out
    have hnc13 := NB372_371.out
    have hnb14 := NB371_373.out
    have hnc14 := NB373_371.out
    obtain ⟨hcz15_0, hcz15_1, hfz15_0, hfz15_1⟩ := cz2_ BK371.out
    have p374 : 0 ≤ (x4_1 : Int) := of_decide_eq_true nx_
    have q374 : x4_1 < (l0_1.length : Int) := of_decide_eq_true nx_
    obtain ⟨ad374, e374, hx374_0, hx374_1, hx374_2, hx374_3, hx374_4⟩ := at_T33 HR0_1.out x4_1 p374 q374
    cases e374
    replace hx374_0 := hb_ HB.out hx374_0
    replace hx374_1 := hb_ HB.out hx374_1
    replace hx374_2 := hb_ HB.out hx374_2
    replace hx374_3 := hb_ HB.out hx374_3
    replace hx374_4 := hb_ HB.out hx374_4
    replace p374 := eq_true p374
    replace q374 := eq_true q374
    go_wp2_with (first | ((with_reducible refine gate_dst (N := 5) rfl ?_); refine bx_ 5 #[.int .i64 0, .int .i64 0, .int .i64 0, .int .i64 0, .int .i64 0] 33 ?_; intro gb375 hg w16 hbox hb; have BK375 := Aside0.mk (hbox); have GW375 := Aside0.mk (zs_ hg (ne_ HB.out)); have GE375 := Aside0.mk (zs_ hg (ne_ HB.out)); have NB371_375 := Aside0.mk (nl_ BK371.out hg); have NB375_371 := Aside0.mk (nm_ BK371.out hg); have NB372_375 := Aside0.mk (nl_ BK372.out hg); have NB375_372 := Aside0.mk (nm_ BK372.out hg); have NB373_375 := Aside0.mk (nl_ BK373.out hg); have NB375_373 := Aside0.mk (nm_ BK373.out hg); replace HO_374001 := Aside0.mk (Kd.R_below (Kd.R_elderB (nr_ HO_374001.out) gb375 (Nat.le_of_eq hg.symm)) hb); replace BK371 := kb_ BK371 hb; replace BK372 := kb_ BK372 hb; replace BK373 := kb_ BK373 hb; replace HB := kB_ HB hb; clear hb hbox hg; have hnb17 := NB375_371.out; have hnc17 := NB371_375.out; have hnb18 := NB375_372.out; have hnc18 := NB372_375.out; have hnb19 := NB375_373.out; have hnc19 := NB373_375.out; obtain ⟨hcz20_0, hcz20_1, hcz20_2, hcz20_3, hcz20_4, hfz20_0, hfz20_1, hfz20_2, hfz20_3, hfz20_4⟩ := cz5_ BK375.out; have hnb21 := NB373_372.out; have hnc21 := NB372_373.out; obtain ⟨hcz22_0, hcz22_1, hfz22_0, hfz22_1⟩ := cz2_ BK373.out) | ((with_reducible refine gate_builtin (b := .append) (xs := #[.tmp 22, .tmp 34]) rfl ?_); at_builtin; refine Kd.R_append k33 (w0 := w) w.heap.size rfl (.tmp 22) (.tmp 34) 23 33 (.agg #[(.int .i64 0), (.int .i64 0), (.int .i64 0), (.int .i64 0), (.int .i64 0)]) 40 rfl Try.underlying23 info33 rfl (by decide) (by omega) u374001 x374001_1 (⟨(rd_T33 l0_1 x4_1).f1, (rd_T33 l0_1 x4_1).f0, (rd_T33 l0_1 x4_1).f2, (rd_T33 l0_1 x4_1).f3, (rd_T33 l0_1 x4_1).f4⟩ : S33) [.int .i64 ((rd_T33 l0_1 x4_1).f1), .int .i64 ((rd_T33 l0_1 x4_1).f0), .int .i64 ((rd_T33 l0_1 x4_1).f2), .int .i64 ((rd_T33 l0_1 x4_1).f3), .int .i64 ((rd_T33 l0_1 x4_1).f4)] (fun k_ => k_ ≠ gb375) (fun _ => False) rfl (by first | (go_simp; done) | (go_simp; rfl)) ?aP (fun _ hk => hk.elim) ?aF ?aO ?aB ?aS ?aL ?_; (case aP => exact k33_mkM _ _ _ (⟨(rd_T33 l0_1 x4_1).f1, (rd_T33 l0_1 x4_1).f0, (rd_T33 l0_1 x4_1).f2, (rd_T33 l0_1 x4_1).f3, (rd_T33 l0_1 x4_1).f4⟩ : S33)); (case aB => exact (ne_ HB.out)); (case aF => exact (fun k_ hk => Kd.freshB (g := gb375) (o := .cells #[.int .i64 ((rd_T33 l0_1 x4_1).f0), .int .i64 ((rd_T33 l0_1 x4_1).f1), .int .i64 ((rd_T33 l0_1 x4_1).f2), .int .i64 ((rd_T33 l0_1 x4_1).f3), .int .i64 ((rd_T33 l0_1 x4_1).f4)] 33 (0, 0)) (np_ BK375.out) k_ hk)); (case aO => exact (by (with_reducible repeat (first | apply Kd.R_alloc | apply Kd.R_drewN | apply Kd.R_drew)); exact Kd.R_mono (rf5_ (Kd.R_mono HO_374001.out (fun k_ hk => (⟨hk, hk.2⟩ : _ ∧ k_ ≠ gb375)))) (fun _ hk => by first | exact hk.1.2 | trivial | simp_all))); (case aS => exact (below_size (ne_ HB.out))); (case aL => have := LMc12.out; omega); intro v377 w23 ho hb hg hat; rw [← Ny376.out] at ho; have HO378 := Aside0.mk (ho); replace BK371 := Aside0.mk (blk_grown (g := gb371) (o := .cells #[.int .i64 a0_0, .slice (some ad374) l0_1.length c0_1] 25 (0, 0)) (nbf_ BK371.out) hg (Kd.R_ne HO_374001.out BK371.out (by decide))); replace BK372 := Aside0.mk (blk_grown (g := gb372) (o := .cells #[.int .i64 0, .slice none 0 0] 25 (0, 0)) (nbf_ BK372.out) hg (Kd.R_ne HO_374001.out BK372.out (by decide))); replace BK373 := Aside0.mk (blk_grown (g := gb373) (o := .cells #[.int .i64 a0_0, u374001] 25 (0, 0)) (nbf_ BK373.out) hg (Kd.R_ne HO_374001.out BK373.out (by decide))); replace BK375 := Aside0.mk (blk_grown (g := gb375) (o := .cells #[.int .i64 ((rd_T33 l0_1 x4_1).f0), .int .i64 ((rd_T33 l0_1 x4_1).f1), .int .i64 ((rd_T33 l0_1 x4_1).f2), .int .i64 ((rd_T33 l0_1 x4_1).f3), .int .i64 ((rd_T33 l0_1 x4_1).f4)] 33 (0, 0)) (np_ BK375.out) hg (Kd.R_away HO_374001.out (fun _ hk => hk.2))); replace HB := Aside0.mk (hb); clear HO_374001; clear ho hb hg hat; obtain ⟨Ao24, co24, eo24⟩ := Kd.R_slice HO378.out; subst eo24; obtain ⟨hcz25_0, hcz25_1, hfz25_0, hfz25_1⟩ := cz2_ BK373.out))
    go_roundg k1
    case measure => have := HK1.out; omega
    case rel => exact ⟨(wrap64 (x4_1 + 1)), (y376), (.slice Ao24 y376.length co24), ns_, H', ⟨by have := HK1.out; omega⟩, ⟨by (with_reducible repeat (first | apply Kd.R_alloc | apply Kd.R_drewN | apply Kd.R_drew)); exact Kd.R_mono (Kd.R_far (p := ⟨gb373, 1, none⟩) (Kd.R_types HO378.out BK373.out (by decide)) (fun _ hk => hk.2) (.slice Ao24 y376.length co24)) (fun _ hk => trivial)⟩, ⟨np_ BK371.out⟩, ⟨np_ BK372.out⟩, ⟨np_ BK373.out⟩, ⟨ne_ HB.out⟩⟩
end Go.Proofs.Ytbmoonciggfbpaa.Print
