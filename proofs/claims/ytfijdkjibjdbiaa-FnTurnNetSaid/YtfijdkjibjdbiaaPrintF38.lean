-- Made by this session's own program (wip/patch_print.py, over the kit's print). Lean checks it.
import Derived.Test.YtfijdkjibjdbiaaPrint0
namespace Go.Proofs.Ytfijdkjibjdbiaa.Print
open Go.RowKit Go.Proofs.YtfijdkjibjdbiaaW.PrintWords Go.Proofs.YtfijdkjibjdbiaaW.PrintLast Go.Proofs.YtfijdkjibjdbiaaW.PrintMore Go.Proofs.YtfijdkjibjdbiaaX
attribute [local go_sem] max2_int min2_int max_two min_two max_three min_three max_four min_four   -- for this text's walks alone
set_option linter.unusedVariables false
set_option linter.unusedSimpArgs false

abbrev z38_0 := bm_ 9 255
attribute [local go_sem ↓] Go.Proofs.YtfijdkjibjdbiaaX.isSome_set
/-! ### impl_Net_back: function 38 -/
def impl_Net_back.l0 : Nat → List (S36) → Int → Int → Int → List (S36) → Option (Int × (List (S36)))
  | 0, _, _, _, _, _ => none
  | k + 1, x14, x15, x16, x336000, x336001 => if x16 < x15 then (if 0 ≤ x16 then (if x16 < (x14.length : Int) then (if x336001.length < 3518437208883 then (impl_Net_back.l0 k x14 x15 (wrap64 (x16 + 1)) x336000 (x336001 ++ [(⟨(rd_T36 x14 x16).f1, (rd_T36 x14 x16).f0, (rd_T36 x14 x16).f2, (rd_T36 x14 x16).f3, (rd_T36 x14 x16).f4⟩ : S36)])) else (none)) else (none)) else (none)) else (some (x336000, x336001))
def impl_Net_back.f (k : Nat) (a0_0 : Int) (l0_1 : List (S36)) : Option (Int × (List (S36))) := if 0 ≤ (l0_1.length : Int) then (if ((l0_1.length : Int) : Int).toNat ≤ 7036874417766 then (impl_Net_back.l0 k l0_1 (l0_1.length : Int) 0 a0_0 (([] : List (S36)))) else (none)) else (none)
theorem impl_Net_back.mono_l : ∀ k, (∀ y0 y1 y2 y3 y4, LeO (impl_Net_back.l0 k y0 y1 y2 y3 y4) (impl_Net_back.l0 (k + 1) y0 y1 y2 y3 y4))
  | 0 => fun _ _ _ _ _ r h => by simp [impl_Net_back.l0] at h
  | k + 1 => by
    have ih0 := impl_Net_back.mono_l k
    · intro y0 y1 y2 y3 y4
      unfold impl_Net_back.l0
      repeat' first | (with_reducible first | exact ih0 _ _ _ _ _ | exact LeO.refl _ | exact LeO.none _ | refine LeO.ite ?_ ?_ | refine LeO.bind ?_ (fun _ => ?_)) | exact ih0 _ _ _ _ _ | exact LeO.none _ | refine LeO.ite ?_ ?_ | refine LeO.bind ?_ (fun _ => ?_)
theorem impl_Net_back.mono : ∀ a0 a1 k, LeO (impl_Net_back.f k a0 a1) (impl_Net_back.f (k + 1) a0 a1) := by
  intro a0 a1 k
  have ih0 := impl_Net_back.mono_l k
  unfold impl_Net_back.f
  repeat' first | (with_reducible first | exact ih0 _ _ _ _ _ | exact LeO.refl _ | exact LeO.none _ | refine LeO.ite ?_ ?_ | refine LeO.bind ?_ (fun _ => ?_)) | exact ih0 _ _ _ _ _ | exact LeO.none _ | refine LeO.ite ?_ ?_ | refine LeO.bind ?_ (fun _ => ?_)
def impl_Net_back.T1 : Bool × List (List Nat × List Nat) := (true, [([], []), ([0], [0]), ([], []), ([2], [2]), ([3], [3]), ([4], [4]), ([1, 5], [1, 5]), ([], []), ([7, 6, 0, 1, 2, 3, 4, 5, 6, 7], [6, 7])])
def impl_Net_back.B1 : List Nat := [0, 1, 0, 4, 12, 28, 63, 0, 255]
theorem impl_Net_back.tab1 : rtab .any (opsOf Try.f38 1) = impl_Net_back.T1 := by kernel_rfl
theorem impl_Net_back.bits1 : waitsOk impl_Net_back.T1.2 impl_Net_back.B1 = true := by kernel_rfl
set_option maxHeartbeats 200000000 in
set_option maxRecDepth 100000 in
theorem impl_Net_back.calls (k : Nat) (a0_0 : Int) (A0_1 : Option Addr) (c0_1 : Nat) (l0_1 : List (S36)) (r1 : Int) (r2 : List (S36)) (w : World) (hr0_1 : Kd.C k36 w A0_1 l0_1.length l0_1) (hc0_1 : l0_1.length ≤ c0_1) (h : impl_Net_back.f k a0_0 l0_1 = some (r1, r2)) :
    Calls Try.prog 38 #[.agg #[.int .i64 a0_0, .slice A0_1 l0_1.length c0_1]] w fun e w' => ∃ v1_ : Value, e = .returned (.agg #[.int .i64 r1, v1_]) ∧ Kd.R k36 36 w' w.heap.size (fun _ => True) v1_ r2 ∧ Below w.heap.size w w' := by
  have hu25 := Try.underlying25
  have hu36 := Try.underlying36
  have HR0_1 := Aside0.mk hr0_1
  have HC0_1 := Aside0.mk hc0_1
  clear hr0_1 hc0_1
  have HB := Aside0.mk (Below.refl w.heap.size w)
  have H : (if 0 ≤ (l0_1.length : Int) then (if ((l0_1.length : Int) : Int).toNat ≤ 7036874417766 then (impl_Net_back.l0 k l0_1 (l0_1.length : Int) 0 a0_0 (([] : List (S36)))) else (none)) else (none)) = some (r1, r2) := h
  clear h
  by_cases c2 : 0 ≤ (l0_1.length : Int)
  rotate_left
  ·rw [if_neg c2] at H
   exact absurd H (by simp)

  rw [if_pos c2] at H
  have c2b0 := eq_true c2
  have c2b1 : decide (0 ≤ (l0_1.length : Int)) = true := decide_eq_true c2
  clear c2
  by_cases c3 : ((l0_1.length : Int) : Int).toNat ≤ 7036874417766
  rotate_left
  ·rw [if_neg c3] at H
   exact absurd H (by simp)
  rw [if_pos c3] at H
  have c3b0 := eq_true c3
  have c3b1 : decide (((l0_1.length : Int) : Int).toNat ≤ 7036874417766) = true := decide_eq_true c3
  clear c3
  obtain ⟨y332, hy332⟩ : ∃ y_ : List (S36), y_ = (([] : List (S36))) := ⟨_, rfl⟩
  replace H : (impl_Net_back.l0 k l0_1 (l0_1.length : Int) 0 a0_0 y332) = some (r1, r2) := by first | (rw [hy332]; with_reducible exact H) | (have H2_ := (Option.bind_some _ _).symm.trans H; rw [hy332]; with_reducible exact H2_) | (have H2_ := (Option.bind_some _ _).symm.trans H; with_reducible exact H2_) | with_reducible exact H | (rw [hy332]; exact H) | exact H
  have Ny332 := Aside0.mk hy332
  clear hy332
  have H' := Aside0.mk H
  clear H
  go_enter Try.func38, Try.ntmps38
  try go_wp2_with (first | ((with_reducible refine gate_dst (N := 1) rfl ?_); refine bx_ 1 #[.int .i64 a0_0, .slice A0_1 l0_1.length c0_1] 25 ?_; intro gb330 hg w4 hbox hb; have BK330 := Aside0.mk (hbox); have GW330 := Aside0.mk (zs_ hg (ne_ HB.out)); have GE330 := Aside0.mk (zs_ hg (ne_ HB.out)); replace HB := kB_ HB hb; clear hb hbox hg) | ((with_reducible refine gate_dst (N := 2) rfl ?_); refine bx_ 2 #[.int .i64 0, .slice none 0 0] 25 ?_; intro gb331 hg w5 hbox hb; have BK331 := Aside0.mk (hbox); have GW331 := Aside0.mk (zs_ hg (ne_ HB.out)); have GE331 := Aside0.mk (zs_ hg (ne_ HB.out)); have NB330_331 := Aside0.mk (nl_ BK330.out hg); have NB331_330 := Aside0.mk (nm_ BK330.out hg); replace BK330 := kb_ BK330 hb; replace HB := kB_ HB hb; clear hb hbox hg))
  replace BK330 := Aside0.mk (blk_drew BK330.out)
  replace BK331 := Aside0.mk (blk_drew BK331.out)
  replace HB := Aside0.mk (below_drew1 HB.out)
  refine start_ (n := 9) (S := fun w' => w'.cell? ⟨gb330, 0, none⟩ = some (.int .i64 a0_0) ∧ w'.cell? ⟨gb330, 1, none⟩ = some (.slice A0_1 l0_1.length c0_1)) (ds := []) (bm_ 9 0) (by kernel_rfl) rfl rfl ⟨ct_ BK330.out 0, ct_ BK330.out 1⟩ (fun hHeld => ?_); refine with_tabW impl_Net_back.tab1 impl_Net_back.bits1 (fun HT_ HW_ => ?_)
  generalize w5.drew = w6 at BK330 BK331 HB hHeld ⊢
  refine pu_ 0 6 (bm_ 9 1) HT_.out ?_
  refine pu_ 2 8 (bm_ 9 5) HT_.out ?_
  refine tk_ 1 7 (bm_ 9 7) HT_.out HW_.out hHeld ?_
  refine tk_ 3 9 (bm_ 9 15) HT_.out HW_.out hHeld ?_
  refine pu_ 4 10 (bm_ 9 31) HT_.out ?_
  refine join_ (σ := Value × Nat) 1 z38_0 (fun s_ => [(11, s_.1), (3, .pointer (some ⟨s_.2, 0, none⟩)), (12, .agg #[.int .i64 a0_0, s_.1])]) (fun s_ w' => (w'.cell? ⟨gb330, 0, none⟩ = some (.int .i64 a0_0) ∧ w'.cell? ⟨gb330, 1, none⟩ = some (.slice A0_1 l0_1.length c0_1)) ∧ (Kd.R k36 36 w' w.heap.size (fun _ => True) s_.1 y332) ∧ (w'.heap[gb330]? = some (.cells #[.int .i64 a0_0, .slice A0_1 l0_1.length c0_1] 25 (0, 0))) ∧ (w'.heap[gb331]? = some (.cells #[.int .i64 0, .slice none 0 0] 25 (0, 0))) ∧ (w'.heap[s_.2]? = some (.cells #[.int .i64 0, .slice none 0 0] 25 (0, 0))) ∧ (w.heap.size ≤ s_.2) ∧ (w.heap.size ≤ s_.2) ∧ (gb330 ≠ s_.2) ∧ (s_.2 ≠ gb330) ∧ (gb331 ≠ s_.2) ∧ (s_.2 ≠ gb331) ∧ (Below w.heap.size w w')) ?_ ?_
  rotate_left
  ·intro hCont
   refine two_ (i := 5) (j := 7) (Ni := some 11) (Nj := some 3) (bm_ 9 63) (bm_ 9 159) rfl rfl rfl rfl (two_of HT_.out (by kernel_rfl)) (by decide) (by decide) (fun K hK => ?_) (fun K hK => ?_)
   ·skip
    refine Go.Proofs.YtfijdkjibjdbiaaX.Kd.R_make0_step k36 _ 36 (by rfl) (N := 11) rfl 23 _ _ rfl (l0_1.length : Int) rfl rfl Try.underlying23 (.agg #[(.int .i64 0), (.int .i64 0), (.int .i64 0), (.int .i64 0), (.int .i64 0)]) 40 info36 (by omega) (ok := fun _ => True) trivial (of_decide_eq_true nx_) (Nat.le_trans (Nat.mul_le_mul_right _ (of_decide_eq_true nx_ : ((l0_1.length : Int) : Int).toNat ≤ 7036874417766)) (by omega)) (Below.refl _ _) (Nat.le_refl _) ?_
    intro v333 w7 ho8 hb hg_ hnew_
    clear hg_ hnew_
    (first | rw [← Ny332.out] at ho8 | (simp only [Int.reduceToNat] at ho8; rw [← Ny332.out] at ho8))
    have HO334 := Aside0.mk (Kd.R_lower ho8 (below_size (ne_ HB.out)))
    replace BK330 := kb_ BK330 hb
    replace BK331 := kb_ BK331 hb
    replace HB := kB_ HB hb
    clear hb ho8
    obtain ⟨Ao9, co9, eo9⟩ := Kd.R_slice HO334.out
    (first | subst eo9 | (injection eo9 with f1_ f2_ f3_; have f4_ := f1_.symm; have f5_ := f3_.symm; clear f1_ f2_ f3_; subst f4_; subst f5_))
    refine hK.out _ _ ⟨ct_ BK330.out 0, ct_ BK330.out 1⟩ (fun hHeld => ?_)
    clear hK K
    refine nm1_ (some 11) ?_
    refine pu_ 6 12 (bm_ 9 127) HT_.out ?_
    refine one_ (i := 7) (N := some 3) z38_0 rfl rfl (one_of HT_.out (by kernel_rfl)) (by decide) (fun K hK => ?_)
    refine bs_ 3 #[.int .i64 0, .slice none 0 0] 25 ?_
    intro gb335 hg w10 hbox hb
    replace HO334 := kR_ HO334 hb
    have BK335 := Aside0.mk (hbox)
    have GW335 := Aside0.mk (zs_ hg (ne_ HB.out))
    have GE335 := Aside0.mk (zs_ hg (ne_ HB.out))
    replace HB := kB_ HB hb
    have NB330_335 := Aside0.mk (nl_ BK330.out hg)
    have NB335_330 := Aside0.mk (nm_ BK330.out hg)
    replace BK330 := kb_ BK330 hb
    have NB331_335 := Aside0.mk (nl_ BK331.out hg)
    have NB335_331 := Aside0.mk (nm_ BK331.out hg)
    replace BK331 := kb_ BK331 hb
    clear hb hbox hg
    refine hK.out _ _ ⟨ct_ BK330.out 0, ct_ BK330.out 1⟩ (fun hHeld => ?_)
    clear hK K
    refine nm1_ (some 3) ?_
    exact norm_ (by simp only [putAll, Act.put, List.setIfInBounds_toArray, List.set_cons_zero, List.set_cons_succ]) (hCont (.slice Ao9 y332.length co9, gb335) _ ⟨hHeld, (nr_ HO334.out), (nb_ BK330.out), (nb_ BK331.out), (nb_ BK335.out), GW335.out, GE335.out, NB330_335.out, NB335_330.out, NB331_335.out, NB335_331.out, (ne_ HB.out)⟩)
   ·skip
    refine bs_ 3 #[.int .i64 0, .slice none 0 0] 25 ?_
    intro gb335 hg w7 hbox hb
    have BK335 := Aside0.mk (hbox)
    have GW335 := Aside0.mk (zs_ hg (ne_ HB.out))
    have GE335 := Aside0.mk (zs_ hg (ne_ HB.out))
    replace HB := kB_ HB hb
    have NB330_335 := Aside0.mk (nl_ BK330.out hg)
    have NB335_330 := Aside0.mk (nm_ BK330.out hg)
    replace BK330 := kb_ BK330 hb
    have NB331_335 := Aside0.mk (nl_ BK331.out hg)
    have NB335_331 := Aside0.mk (nm_ BK331.out hg)
    replace BK331 := kb_ BK331 hb
    clear hb hbox hg
    refine hK.out _ _ ⟨ct_ BK330.out 0, ct_ BK330.out 1⟩ (fun hHeld => ?_)
    clear hK K
    refine nm1_ (some 3) ?_
    refine one_ (i := 5) (N := some 11) (bm_ 9 191) rfl rfl (one_of HT_.out (by kernel_rfl)) (by decide) (fun K hK => ?_)
    refine Go.Proofs.YtfijdkjibjdbiaaX.Kd.R_make0_step k36 _ 36 (by rfl) (N := 11) rfl 23 _ _ rfl (l0_1.length : Int) rfl rfl Try.underlying23 (.agg #[(.int .i64 0), (.int .i64 0), (.int .i64 0), (.int .i64 0), (.int .i64 0)]) 40 info36 (by omega) (ok := fun _ => True) trivial (of_decide_eq_true nx_) (Nat.le_trans (Nat.mul_le_mul_right _ (of_decide_eq_true nx_ : ((l0_1.length : Int) : Int).toNat ≤ 7036874417766)) (by omega)) (Below.refl _ _) (Nat.le_refl _) ?_
    intro v333 w8 ho9 hb hg_ hnew_
    clear hg_ hnew_
    (first | rw [← Ny332.out] at ho9 | (simp only [Int.reduceToNat] at ho9; rw [← Ny332.out] at ho9))
    have HO334 := Aside0.mk (Kd.R_lower ho9 (below_size (ne_ HB.out)))
    replace BK330 := kb_ BK330 hb
    replace BK331 := kb_ BK331 hb
    replace BK335 := kb_ BK335 hb
    replace HB := kB_ HB hb
    clear hb ho9
    obtain ⟨Ao10, co10, eo10⟩ := Kd.R_slice HO334.out
    (first | subst eo10 | (injection eo10 with f1_ f2_ f3_; have f4_ := f1_.symm; have f5_ := f3_.symm; clear f1_ f2_ f3_; subst f4_; subst f5_))
    refine hK.out _ _ ⟨ct_ BK330.out 0, ct_ BK330.out 1⟩ (fun hHeld => ?_)
    clear hK K
    refine nm1_ (some 11) ?_
    refine pu_ 6 12 z38_0 HT_.out ?_
    exact norm_ (by simp only [putAll, Act.put, List.setIfInBounds_toArray, List.set_cons_zero, List.set_cons_succ]) (hCont (.slice Ao10 y332.length co10, gb335) _ ⟨hHeld, (nr_ HO334.out), (nb_ BK330.out), (nb_ BK331.out), (nb_ BK335.out), GW335.out, GE335.out, NB330_335.out, NB335_330.out, NB331_335.out, NB335_331.out, (ne_ HB.out)⟩)
  rintro ⟨v333, gb335⟩ w11 ⟨hS_, h0_, h1_, h2_, h3_, h4_, h5_, h6_, h7_, h8_, h9_, h10_⟩
  have HO334 : Aside0 (Kd.R k36 36 w11 w.heap.size (fun _ => True) v333 y332) := ⟨h0_⟩
  replace BK330 : Aside0 (w11.heap[gb330]? = some (.cells #[.int .i64 a0_0, .slice A0_1 l0_1.length c0_1] 25 (0, 0))) := ⟨h1_⟩
  replace BK331 : Aside0 (w11.heap[gb331]? = some (.cells #[.int .i64 0, .slice none 0 0] 25 (0, 0))) := ⟨h2_⟩
  have BK335 : Aside0 (w11.heap[gb335]? = some (.cells #[.int .i64 0, .slice none 0 0] 25 (0, 0))) := ⟨h3_⟩
  have GW335 : Aside0 (w.heap.size ≤ gb335) := ⟨h4_⟩
  have GE335 : Aside0 (w.heap.size ≤ gb335) := ⟨h5_⟩
  have NB330_335 : Aside0 (gb330 ≠ gb335) := ⟨h6_⟩
  have NB335_330 : Aside0 (gb335 ≠ gb330) := ⟨h7_⟩
  have NB331_335 : Aside0 (gb331 ≠ gb335) := ⟨h8_⟩
  have NB335_331 : Aside0 (gb335 ≠ gb331) := ⟨h9_⟩
  replace HB : Aside0 (Below w.heap.size w w11) := ⟨h10_⟩
  clear h0_ h1_ h2_ h3_ h4_ h5_ h6_ h7_ h8_ h9_ h10_
  have hHeld : w11.cell? ⟨gb330, 0, none⟩ = some (.int .i64 a0_0) ∧ w11.cell? ⟨gb330, 1, none⟩ = some (.slice A0_1 l0_1.length c0_1) := hS_
  obtain ⟨Ao12, co12, eo12⟩ := Kd.R_slice HO334.out
  (first | subst eo12 | (injection eo12 with f1_ f2_ f3_; have f4_ := f1_.symm; have f5_ := f3_.symm; clear f1_ f2_ f3_; subst f4_; subst f5_))
  refine nm2_ ?_
  refine one_ (i := 8) (N := none) (bm_ 9 511) rfl rfl (one_of HT_.out (by kernel_rfl)) (by decide) (fun K hK => ?_)
  have hs13 : w11.cell? ⟨gb335, 0, none⟩ = some (.int .i64 0) := ct_ BK335.out 0
  have hfs13 := blk_frozen BK335.out 0
  have hns13_0 := NB330_335.out
  have hns13_1 := NB331_335.out
  have hms13_0 := NB335_330.out
  have hms13_1 := NB335_331.out
  have hs14 : w11.cell? ⟨gb335, 1, none⟩ = some (.slice none 0 0) := ct_ BK335.out 1
  have hfs14 := blk_frozen BK335.out 1
  have hns14_0 := NB330_335.out
  have hns14_1 := NB331_335.out
  have hms14_0 := NB335_330.out
  have hms14_1 := NB335_331.out
  refine skip_ (w1 := ?_) (by rfl) rfl ?_ ?_
  rotate_left
  ·go_simp
   rfl
  refine hK.out _ _ ⟨((cell_far (p := ⟨gb335, _, none⟩) NB330_335.out _).trans (((cell_far (p := ⟨gb335, _, none⟩) NB330_335.out _).trans (hHeld.1)))), ((cell_far (p := ⟨gb335, _, none⟩) NB330_335.out _).trans (((cell_far (p := ⟨gb335, _, none⟩) NB330_335.out _).trans (hHeld.2))))⟩ (fun hHeld => ?_)
  clear hK K
  refine done_ (done_of HT_.out (by kernel_rfl)) ?_
  have hnb15 := NB330_331.out
  have hnc15 := NB331_330.out
  have hnb16 := NB330_335.out
  have hnc16 := NB335_330.out
  obtain ⟨hcz17_0, hcz17_1, hfz17_0, hfz17_1⟩ := cz2_ BK330.out
  try go_wp2
  go_loopg [16] k (fun kq v16 w' => ∃ (x16_1 : Int) (x336001_1 : List (S36)) (u336001 : Value), v16 = .int .i64 x16_1 ∧ Aside0 (impl_Net_back.l0 kq l0_1 (l0_1.length : Int) x16_1 a0_0 x336001_1 = some (r1, r2)) ∧ Aside0 (kq ≤ k) ∧ Aside0 (Kd.R k36 36 w' w.heap.size (fun _ => True) u336001 x336001_1) ∧ Aside0 (w'.heap[gb330]? = some (.cells #[.int .i64 a0_0, (.slice A0_1 l0_1.length c0_1)] 25 (0, 0))) ∧ Aside0 (w'.heap[gb331]? = some (.cells #[.int .i64 0, (.slice none 0 0)] 25 (0, 0))) ∧ Aside0 (w'.heap[gb335]? = some (.cells #[.int .i64 a0_0, u336001] 25 (0, 0))) ∧ Aside0 (Below w.heap.size w w'))
  case atStart => exact ⟨(0), (y332), (.slice Ao12 y332.length co12), ns_, H', ⟨Nat.le_refl _⟩, ⟨by (with_reducible repeat (first | apply Kd.R_alloc | apply Kd.R_drewN | apply Kd.R_drew)); exact Kd.R_mono (rf2_ (Kd.R_types HO334.out BK335.out (by decide))) (fun _ hk => trivial)⟩, ⟨np_ BK330.out⟩, ⟨np_ BK331.out⟩, ⟨np_ BK335.out⟩, ⟨ne_ HB.out⟩⟩
  case round =>
   clear H'
   try clear c2
   try clear c2b0
   try clear c2b1
   try clear c3
   try clear c3b0
   try clear c3b1
   try clear hcz17_0
   try clear hcz17_1
   try clear hfz17_0
   try clear hfz17_1
   obtain ⟨x16_1, x336001_1, u336001, rfl, HA, HK1, HO_336001, BK330, BK331, BK335, HB⟩ := hrel
   cases gk with
   | zero => exact absurd HA.out (by simp [impl_Net_back.l0])
   | succ k1 =>
    have H := HA.out
    clear HA
    simp only [impl_Net_back.l0] at H
    by_cases c18 : x16_1 < (l0_1.length : Int)
    rotate_left
    ·rw [if_neg c18] at H
     have c18b0 : decide (x16_1 < (l0_1.length : Int)) = false := decide_eq_false c18
     clear c18
     simp only [Option.some.injEq, Prod.mk.injEq] at H
     obtain ⟨rfl, rfl⟩ := H
     have hnb33 := NB335_330.out
     have hnc33 := NB330_335.out
     have hnb34 := NB335_331.out
     have hnc34 := NB331_335.out
     obtain ⟨hcz35_0, hcz35_1, hfz35_0, hfz35_1⟩ := cz2_ BK335.out
     have hnb36 := NB331_330.out
     have hnc36 := NB330_331.out
     obtain ⟨hcz37_0, hcz37_1, hfz37_0, hfz37_1⟩ := cz2_ BK331.out
     obtain ⟨Ao38, co38, eo38⟩ := Kd.R_slice HO_336001.out
     subst eo38
     go_wp2
     refine bodyPost_ret (results_cell_row rfl _ _ gb331 25 #[.int .i64 a0_0, .slice Ao38 x336001_1.length co38] (0, 0) _ rfl (np_ BK331.out) Try.underlying25 rfl (by kernel_rfl)) rfl ?_
     exact ⟨_, nw_, by (with_reducible repeat (first | apply Kd.R_alloc | apply Kd.R_drewN | apply Kd.R_drew)); exact Kd.R_mono (rf2_ (Kd.R_types HO_336001.out BK331.out (by decide))) (fun _ hk => trivial), ne_ HB.out⟩
    rw [if_pos c18] at H
    have c18b0 : decide (x16_1 < (l0_1.length : Int)) = true := decide_eq_true c18
    clear c18
    by_cases c19 : 0 ≤ x16_1
    rotate_left
    ·rw [if_neg c19] at H
     exact absurd H (by simp)
    rw [if_pos c19] at H
    have c19b0 : decide (0 ≤ x16_1) = true := decide_eq_true c19
    clear c19
    by_cases c20 : x16_1 < (l0_1.length : Int)
    rotate_left
    ·rw [if_neg c20] at H
     exact absurd H (by simp)
    rw [if_pos c20] at H
    have c20b0 : decide (x16_1 < (l0_1.length : Int)) = true := decide_eq_true c20
    clear c20
    by_cases c21 : x336001_1.length < 3518437208883
    rotate_left
    ·rw [if_neg c21] at H
     exact absurd H (by simp)
    rw [if_pos c21] at H
    have LMc21 := Aside0.mk c21
    clear c21
    obtain ⟨y338, hy338⟩ : ∃ y_ : List (S36), y_ = (x336001_1 ++ [(⟨(rd_T36 l0_1 x16_1).f1, (rd_T36 l0_1 x16_1).f0, (rd_T36 l0_1 x16_1).f2, (rd_T36 l0_1 x16_1).f3, (rd_T36 l0_1 x16_1).f4⟩ : S36)]) := ⟨_, rfl⟩
    replace H : (impl_Net_back.l0 k1 l0_1 (l0_1.length : Int) (wrap64 (x16_1 + 1)) a0_0 y338) = some (r1, r2) := by first | (rw [hy338]; with_reducible exact H) | (have H2_ := (Option.bind_some _ _).symm.trans H; rw [hy338]; with_reducible exact H2_) | (have H2_ := (Option.bind_some _ _).symm.trans H; with_reducible exact H2_) | with_reducible exact H | (rw [hy338]; exact H) | exact H
    have Ny338 := Aside0.mk hy338
    clear hy338
    have H' := Aside0.mk H
    clear H
    have p336 : 0 ≤ (x16_1 : Int) := of_decide_eq_true nx_
    have q336 : x16_1 < (l0_1.length : Int) := of_decide_eq_true nx_
    obtain ⟨ad336, e336, hx336_0, hx336_1, hx336_2, hx336_3, hx336_4⟩ := at_T36 HR0_1.out x16_1 p336 q336
    cases e336
    replace hx336_0 := hb_ HB.out hx336_0
    replace hx336_1 := hb_ HB.out hx336_1
    replace hx336_2 := hb_ HB.out hx336_2
    replace hx336_3 := hb_ HB.out hx336_3
    replace hx336_4 := hb_ HB.out hx336_4
    replace p336 := eq_true p336
    replace q336 := eq_true q336
    go_wp2_with (first | ((with_reducible refine gate_dst (N := 5) rfl ?_); refine bx_ 5 #[.int .i64 0, .int .i64 0, .int .i64 0, .int .i64 0, .int .i64 0] 36 ?_; intro gb337 hg w22 hbox hb; have BK337 := Aside0.mk (hbox); have GW337 := Aside0.mk (zs_ hg (ne_ HB.out)); have GE337 := Aside0.mk (zs_ hg (ne_ HB.out)); have NB330_337 := Aside0.mk (nl_ BK330.out hg); have NB337_330 := Aside0.mk (nm_ BK330.out hg); have NB331_337 := Aside0.mk (nl_ BK331.out hg); have NB337_331 := Aside0.mk (nm_ BK331.out hg); have NB335_337 := Aside0.mk (nl_ BK335.out hg); have NB337_335 := Aside0.mk (nm_ BK335.out hg); replace HO_336001 := Aside0.mk (Kd.R_below (Kd.R_elderB (nr_ HO_336001.out) gb337 (Nat.le_of_eq hg.symm)) hb); replace BK330 := kb_ BK330 hb; replace BK331 := kb_ BK331 hb; replace BK335 := kb_ BK335 hb; replace HB := kB_ HB hb; clear hb hbox hg; have hnb23 := NB337_330.out; have hnc23 := NB330_337.out; have hnb24 := NB337_331.out; have hnc24 := NB331_337.out; have hnb25 := NB337_335.out; have hnc25 := NB335_337.out; obtain ⟨hcz26_0, hcz26_1, hcz26_2, hcz26_3, hcz26_4, hfz26_0, hfz26_1, hfz26_2, hfz26_3, hfz26_4⟩ := cz5_ BK337.out; have hnb27 := NB335_330.out; have hnc27 := NB330_335.out; have hnb28 := NB335_331.out; have hnc28 := NB331_335.out; obtain ⟨hcz29_0, hcz29_1, hfz29_0, hfz29_1⟩ := cz2_ BK335.out) | ((with_reducible refine gate_builtin (b := .append) (xs := #[.tmp 27, .tmp 29]) rfl ?_); at_builtin; refine Kd.R_append k36 (w0 := w) w.heap.size rfl (.tmp 27) (.tmp 29) 23 36 (.agg #[(.int .i64 0), (.int .i64 0), (.int .i64 0), (.int .i64 0), (.int .i64 0)]) 40 rfl Try.underlying23 info36 rfl (by decide) (by omega) u336001 x336001_1 (⟨(rd_T36 l0_1 x16_1).f1, (rd_T36 l0_1 x16_1).f0, (rd_T36 l0_1 x16_1).f2, (rd_T36 l0_1 x16_1).f3, (rd_T36 l0_1 x16_1).f4⟩ : S36) [.int .i64 ((rd_T36 l0_1 x16_1).f1), .int .i64 ((rd_T36 l0_1 x16_1).f0), .int .i64 ((rd_T36 l0_1 x16_1).f2), .int .i64 ((rd_T36 l0_1 x16_1).f3), .int .i64 ((rd_T36 l0_1 x16_1).f4)] (fun k_ => k_ ≠ gb337) (fun _ => False) rfl (by first | (go_simp; done) | (go_simp; rfl)) ?aP (fun _ hk => hk.elim) ?aF ?aO ?aB ?aS ?aL ?_; (case aP => exact k36_mkM _ _ _ (⟨(rd_T36 l0_1 x16_1).f1, (rd_T36 l0_1 x16_1).f0, (rd_T36 l0_1 x16_1).f2, (rd_T36 l0_1 x16_1).f3, (rd_T36 l0_1 x16_1).f4⟩ : S36)); (case aB => exact (ne_ HB.out)); (case aF => exact (fun k_ hk => Kd.freshB (g := gb337) (o := .cells #[.int .i64 ((rd_T36 l0_1 x16_1).f1), .int .i64 ((rd_T36 l0_1 x16_1).f0), .int .i64 ((rd_T36 l0_1 x16_1).f2), .int .i64 ((rd_T36 l0_1 x16_1).f3), .int .i64 ((rd_T36 l0_1 x16_1).f4)] 36 (0, 0)) (np_ BK337.out) k_ hk)); (case aO => exact (by (with_reducible repeat (first | apply Kd.R_alloc | apply Kd.R_drewN | apply Kd.R_drew)); exact Kd.R_mono (rf2_ (rf5_ (Kd.R_mono HO_336001.out (fun k_ hk => (⟨hk, hk.2⟩ : _ ∧ k_ ≠ gb337))))) (fun _ hk => by first | exact hk.1.2 | trivial | simp_all))); (case aS => exact (below_size (ne_ HB.out))); (case aL => have := LMc21.out; omega); intro v339 w30 ho hb hg hat; rw [← Ny338.out] at ho; have HO340 := Aside0.mk (ho); replace BK330 := Aside0.mk (blk_grown (g := gb330) (o := .cells #[.int .i64 a0_0, .slice (some ad336) l0_1.length c0_1] 25 (0, 0)) (nbf_ BK330.out) hg (Kd.R_ne HO_336001.out BK330.out (by decide))); replace BK331 := Aside0.mk (blk_grown (g := gb331) (o := .cells #[.int .i64 0, .slice none 0 0] 25 (0, 0)) (nbf_ BK331.out) hg (Kd.R_ne HO_336001.out BK331.out (by decide))); replace BK335 := Aside0.mk (blk_grown (g := gb335) (o := .cells #[.int .i64 a0_0, u336001] 25 (0, 0)) (nbf_ BK335.out) hg (Kd.R_ne HO_336001.out BK335.out (by decide))); replace BK337 := Aside0.mk (blk_grown (g := gb337) (o := .cells #[.int .i64 ((rd_T36 l0_1 x16_1).f1), .int .i64 ((rd_T36 l0_1 x16_1).f0), .int .i64 ((rd_T36 l0_1 x16_1).f2), .int .i64 ((rd_T36 l0_1 x16_1).f3), .int .i64 ((rd_T36 l0_1 x16_1).f4)] 36 (0, 0)) (np_ BK337.out) hg (Kd.R_away HO_336001.out (fun _ hk => hk.2))); replace HB := Aside0.mk (hb); clear HO_336001; clear ho hb hg hat; obtain ⟨Ao31, co31, eo31⟩ := Kd.R_slice HO340.out; subst eo31; obtain ⟨hcz32_0, hcz32_1, hfz32_0, hfz32_1⟩ := cz2_ BK335.out))
    go_roundg k1
    case measure => have := HK1.out; omega
    case rel => exact ⟨(wrap64 (x16_1 + 1)), (y338), (.slice Ao31 y338.length co31), ns_, H', ⟨by have := HK1.out; omega⟩, ⟨by (with_reducible repeat (first | apply Kd.R_alloc | apply Kd.R_drewN | apply Kd.R_drew)); exact Kd.R_mono (Kd.R_far (p := ⟨gb335, 1, none⟩) (Kd.R_types HO340.out BK335.out (by decide)) (fun _ hk => hk.2) (.slice Ao31 y338.length co31)) (fun _ hk => trivial)⟩, ⟨np_ BK330.out⟩, ⟨np_ BK331.out⟩, ⟨np_ BK335.out⟩, ⟨ne_ HB.out⟩⟩
end Go.Proofs.Ytfijdkjibjdbiaa.Print
