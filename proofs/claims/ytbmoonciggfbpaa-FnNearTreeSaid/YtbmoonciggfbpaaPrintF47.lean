-- Made by this session's own program (wip/patch_print.py, over the kit's print). Lean checks it.
import Derived.Test.YtbmoonciggfbpaaPrint0
namespace Go.Proofs.Ytbmoonciggfbpaa.Print
open Go.RowKit Go.Proofs.YtbmoonciggfbpaaW.PrintWords Go.Proofs.YtbmoonciggfbpaaW.PrintLast Go.Proofs.YtbmoonciggfbpaaW.PrintMore Go.Proofs.YtbmoonciggfbpaaX
attribute [local go_sem] max2_int min2_int max_two min_two max_three min_three max_four min_four   -- for this text's walks alone
set_option linter.unusedVariables false
set_option linter.unusedSimpArgs false

abbrev z47_0 : Array Bool := #[true, true, true, true, true, true, true, true, false]
attribute [local go_sem ↓] Go.Proofs.YtbmoonciggfbpaaX.isSome_set
/-! ### impl_Net_back: function 47 -/
def impl_Net_back.l0 : Nat → List (S33) → Int → Int → Int → List (S33) → Option (Int × (List (S33)))
  | 0, _, _, _, _, _ => none
  | k + 1, x14, x15, x16, x234000, x234001 => if x16 < x15 then (if 0 ≤ x16 then (if x16 < (x14.length : Int) then (if x234001.length < 3518437208883 then (impl_Net_back.l0 k x14 x15 (wrap64 (x16 + 1)) x234000 (x234001 ++ [(⟨(rd_T33 x14 x16).f1, (rd_T33 x14 x16).f0, (rd_T33 x14 x16).f2, (rd_T33 x14 x16).f3, (rd_T33 x14 x16).f4⟩ : S33)])) else (none)) else (none)) else (none)) else (some (x234000, x234001))
def impl_Net_back.f (k : Nat) (a0_0 : Int) (l0_1 : List (S33)) : Option (Int × (List (S33))) := if 0 ≤ (l0_1.length : Int) then (if ((l0_1.length : Int) : Int).toNat ≤ 7036874417766 then (impl_Net_back.l0 k l0_1 (l0_1.length : Int) 0 a0_0 (([] : List (S33)))) else (none)) else (none)
theorem impl_Net_back.mono_l : ∀ k, (∀ y0 y1 y2 y3 y4, LeO (impl_Net_back.l0 k y0 y1 y2 y3 y4) (impl_Net_back.l0 (k + 1) y0 y1 y2 y3 y4))
  | 0 => fun _ _ _ _ _ r h => by simp [impl_Net_back.l0] at h
  | k + 1 => by
    have ih0 := impl_Net_back.mono_l k
    · intro y0 y1 y2 y3 y4
      unfold impl_Net_back.l0
      repeat' first | (with_reducible first | exact ih0 _ _ _ _ _ | exact LeO.refl _ | exact LeO.none _ | refine LeO.ite ?_ ?_ | refine LeO.bind ?_ (fun _ => ?_)) | exact ih0 _ _ _ _ _ | exact LeO.none _ | refine LeO.ite ?_ ?_ | refine LeO.bind ?_ (fun _ => ?_)
theorem impl_Net_back.mono : ∀ a0 a1 k, LeO (impl_Net_back.f k a0 a1) (impl_Net_back.f (k + 1) a0 a1) := by
  intro a0 a1 k
  have ih0 := impl_Net_back.mono_l k
  unfold impl_Net_back.f
  repeat' first | (with_reducible first | exact ih0 _ _ _ _ _ | exact LeO.refl _ | exact LeO.none _ | refine LeO.ite ?_ ?_ | refine LeO.bind ?_ (fun _ => ?_)) | exact ih0 _ _ _ _ _ | exact LeO.none _ | refine LeO.ite ?_ ?_ | refine LeO.bind ?_ (fun _ => ?_)
def impl_Net_back.T1 : Bool × List (List Nat × List Nat) := (true, [([], []), ([0], [0]), ([], []), ([2], [2]), ([3], [3]), ([4], [4]), ([1, 5], [1, 5]), ([], []), ([7, 6, 0, 1, 2, 3, 4, 5, 6, 7], [6, 7])])
def impl_Net_back.B1 : List Nat := [0, 1, 0, 4, 12, 28, 63, 0, 255]
theorem impl_Net_back.tab1 : rtab .any (opsOf Try.f47 1) = impl_Net_back.T1 := by kernel_rfl
theorem impl_Net_back.bits1 : waitsOk impl_Net_back.T1.2 impl_Net_back.B1 = true := by kernel_rfl
set_option maxHeartbeats 200000000 in
set_option maxRecDepth 100000 in
theorem impl_Net_back.calls (k : Nat) (a0_0 : Int) (A0_1 : Option Addr) (c0_1 : Nat) (l0_1 : List (S33)) (r1 : Int) (r2 : List (S33)) (w : World) (hr0_1 : Kd.C k33 w A0_1 l0_1.length l0_1) (hc0_1 : l0_1.length ≤ c0_1) (h : impl_Net_back.f k a0_0 l0_1 = some (r1, r2)) :
    Calls Try.prog 47 #[.agg #[.int .i64 a0_0, .slice A0_1 l0_1.length c0_1]] w fun e w' => ∃ v1_ : Value, e = .returned (.agg #[.int .i64 r1, v1_]) ∧ Kd.R k33 33 w' w.heap.size (fun _ => True) v1_ r2 ∧ Below w.heap.size w w' := by
  have hu25 := Try.underlying25
  have hu33 := Try.underlying33
  have HR0_1 := Aside0.mk hr0_1
  have HC0_1 := Aside0.mk hc0_1
  clear hr0_1 hc0_1
  have HB := Aside0.mk (Below.refl w.heap.size w)
  have H : (if 0 ≤ (l0_1.length : Int) then (if ((l0_1.length : Int) : Int).toNat ≤ 7036874417766 then (impl_Net_back.l0 k l0_1 (l0_1.length : Int) 0 a0_0 (([] : List (S33)))) else (none)) else (none)) = some (r1, r2) := h
  clear h
  by_cases c2 : 0 ≤ (l0_1.length : Int)
  rotate_left
  ·rw [if_neg c2] at H
   exact absurd H (by simp)

  rw [if_pos c2] at H
  have c2b0 := eq_true c2
  have c2b1 : decide (0 ≤ (l0_1.length : Int)) = true := decide_eq_true c2
  clear c2
  by_cases c3 : ((l0_1.length : Int) : Int).toNat ≤ 7036874417766
  rotate_left
  ·rw [if_neg c3] at H
   exact absurd H (by simp)
  rw [if_pos c3] at H
  have c3b0 := eq_true c3
  have c3b1 : decide (((l0_1.length : Int) : Int).toNat ≤ 7036874417766) = true := decide_eq_true c3
  clear c3
  obtain ⟨y230, hy230⟩ : ∃ y_ : List (S33), y_ = (([] : List (S33))) := ⟨_, rfl⟩
  replace H : (impl_Net_back.l0 k l0_1 (l0_1.length : Int) 0 a0_0 y230) = some (r1, r2) := by first | (rw [hy230]; with_reducible exact H) | (have H2_ := (Option.bind_some _ _).symm.trans H; rw [hy230]; with_reducible exact H2_) | (have H2_ := (Option.bind_some _ _).symm.trans H; with_reducible exact H2_) | with_reducible exact H | (rw [hy230]; exact H) | exact H
  have Ny230 := Aside0.mk hy230
  clear hy230
  have H' := Aside0.mk H
  clear H
  go_enter Try.func47, Try.ntmps47
  try go_wp2_with (first | ((with_reducible refine gate_dst (N := 1) rfl ?_); refine bx_ 1 #[.int .i64 a0_0, .slice A0_1 l0_1.length c0_1] 25 ?_; intro gb228 hg w4 hbox hb; have BK228 := Aside0.mk (hbox); have GW228 := Aside0.mk (zs_ hg (ne_ HB.out)); have GE228 := Aside0.mk (zs_ hg (ne_ HB.out)); replace HB := kB_ HB hb; clear hb hbox hg) | ((with_reducible refine gate_dst (N := 2) rfl ?_); refine bx_ 2 #[.int .i64 0, .slice none 0 0] 25 ?_; intro gb229 hg w5 hbox hb; have BK229 := Aside0.mk (hbox); have GW229 := Aside0.mk (zs_ hg (ne_ HB.out)); have GE229 := Aside0.mk (zs_ hg (ne_ HB.out)); have NB228_229 := Aside0.mk (nl_ BK228.out hg); have NB229_228 := Aside0.mk (nm_ BK228.out hg); replace BK228 := kb_ BK228 hb; replace HB := kB_ HB hb; clear hb hbox hg))
  have n0_ := Aside0.mk (blk_drew BK228.out)
  have n1_ := Aside0.mk (blk_drew BK229.out)
  have n2_ := Aside0.mk (below_drew1 HB.out)
  clear BK228
  clear BK229
  clear HB
  have BK228 := n0_
  have BK229 := n1_
  have HB := n2_
  clear n0_ n1_ n2_
  refine start_ (n := 9) (S := fun w' => w'.cell? ⟨gb228, 0, none⟩ = some (.int .i64 a0_0) ∧ w'.cell? ⟨gb228, 1, none⟩ = some (.slice A0_1 l0_1.length c0_1)) (ds := []) #[false, false, false, false, false, false, false, false, false] (by kernel_rfl) rfl rfl ⟨(blk_cell BK228.out 0).trans rfl, (blk_cell BK228.out 1).trans rfl⟩ (fun hHeld => ?_); refine with_tabW impl_Net_back.tab1 impl_Net_back.bits1 (fun HT_ HW_ => ?_)
  generalize w5.drew = w6 at BK228 BK229 HB hHeld ⊢
  refine pu_ 0 6 #[true, false, false, false, false, false, false, false, false] HT_.out ?_
  refine pu_ 2 8 #[true, false, true, false, false, false, false, false, false] HT_.out ?_
  refine tk_ 1 7 #[true, true, true, false, false, false, false, false, false] HT_.out HW_.out hHeld ?_
  refine tk_ 3 9 #[true, true, true, true, false, false, false, false, false] HT_.out HW_.out hHeld ?_
  refine pu_ 4 10 #[true, true, true, true, true, false, false, false, false] HT_.out ?_
  refine join_ (σ := Value × Nat) 1 z47_0 (fun s_ => [(11, s_.1), (3, .pointer (some ⟨s_.2, 0, none⟩)), (12, .agg #[.int .i64 a0_0, s_.1])]) (fun s_ w' => (w'.cell? ⟨gb228, 0, none⟩ = some (.int .i64 a0_0) ∧ w'.cell? ⟨gb228, 1, none⟩ = some (.slice A0_1 l0_1.length c0_1)) ∧ (Kd.R k33 33 w' w.heap.size (fun _ => True) s_.1 y230) ∧ (w'.heap[gb228]? = some (.cells #[.int .i64 a0_0, .slice A0_1 l0_1.length c0_1] 25 (0, 0))) ∧ (w'.heap[gb229]? = some (.cells #[.int .i64 0, .slice none 0 0] 25 (0, 0))) ∧ (w'.heap[s_.2]? = some (.cells #[.int .i64 0, .slice none 0 0] 25 (0, 0))) ∧ (w.heap.size ≤ s_.2) ∧ (w.heap.size ≤ s_.2) ∧ (gb228 ≠ s_.2) ∧ (s_.2 ≠ gb228) ∧ (gb229 ≠ s_.2) ∧ (s_.2 ≠ gb229) ∧ (Below w.heap.size w w')) ?_ ?_
  rotate_left
  ·intro hCont
   refine two_ (i := 5) (j := 7) (Ni := some 11) (Nj := some 3) #[true, true, true, true, true, true, false, false, false] #[true, true, true, true, true, false, false, true, false] rfl rfl rfl rfl (two_of HT_.out (by kernel_rfl)) (by decide) (by decide) (fun K hK => ?_) (fun K hK => ?_)
   ·skip
    refine Go.Proofs.YtbmoonciggfbpaaX.Kd.R_make0_step k33 _ 33 (by rfl) (N := 11) rfl 23 _ _ rfl (l0_1.length : Int) rfl rfl Try.underlying23 (.agg #[(.int .i64 0), (.int .i64 0), (.int .i64 0), (.int .i64 0), (.int .i64 0)]) 40 info33 (by omega) (ok := fun _ => True) trivial (of_decide_eq_true nx_) (Nat.le_trans (Nat.mul_le_mul_right _ (of_decide_eq_true nx_ : ((l0_1.length : Int) : Int).toNat ≤ 7036874417766)) (by omega)) (Below.refl _ _) (Nat.le_refl _) ?_
    intro v231 w7 ho8 hb hg_ hnew_
    clear hg_ hnew_
    (first | rw [← Ny230.out] at ho8 | (simp only [Int.reduceToNat] at ho8; rw [← Ny230.out] at ho8))
    have n0_ := Aside0.mk (Kd.R_lower ho8 (below_size (ne_ HB.out)))
    have n1_ := Aside0.mk (blk_below (g := gb228) (o := .cells #[.int .i64 a0_0, .slice A0_1 l0_1.length c0_1] 25 (0, 0)) (nb_ BK228.out) hb)
    have n2_ := Aside0.mk (blk_below (g := gb229) (o := .cells #[.int .i64 0, .slice none 0 0] 25 (0, 0)) (nb_ BK229.out) hb)
    have n3_ := Aside0.mk (below_step (ne_ HB.out) hb)
    clear BK228
    clear BK229
    clear HB
    have HO232 := n0_
    have BK228 := n1_
    have BK229 := n2_
    have HB := n3_
    clear n0_ n1_ n2_ n3_
    clear hb ho8
    obtain ⟨Ao9, co9, eo9⟩ := Kd.R_slice HO232.out
    (first | subst eo9 | (injection eo9 with f1_ f2_ f3_; have f4_ := f1_.symm; have f5_ := f3_.symm; clear f1_ f2_ f3_; subst f4_; subst f5_))
    refine hK.out _ _ ⟨(blk_cell BK228.out 0).trans rfl, (blk_cell BK228.out 1).trans rfl⟩ (fun hHeld => ?_)
    clear hK K
    refine norm_ (a' := ?_) ?_ ?_
    rotate_left
    ·show Act.put _ (some 11) _ = _
     simp only [Act.put, List.setIfInBounds_toArray, List.set_cons_zero, List.set_cons_succ, i64_w, i32_w]
     rfl
    refine pu_ 6 12 #[true, true, true, true, true, true, true, false, false] HT_.out ?_
    refine one_ (i := 7) (N := some 3) z47_0 rfl rfl (one_of HT_.out (by kernel_rfl)) (by decide) (fun K hK => ?_)
    refine box_step ?hg (N := 3) ?hd (cs := #[.int .i64 0, .slice none 0 0]) (t := 25) ?hr ?_; (case hd => rfl); (case hg => rfl); (case hr => first | (go_simp; done) | (go_simp; rfl))
    intro gb233 hg w10 hbox hb
    have n0_ := Aside0.mk (Kd.R_below (nr_ HO232.out) hb)
    have n1_ := Aside0.mk (blk_below (g := gb228) (o := .cells #[.int .i64 a0_0, .slice A0_1 l0_1.length c0_1] 25 (0, 0)) (nb_ BK228.out) hb)
    have n2_ := Aside0.mk (blk_below (g := gb229) (o := .cells #[.int .i64 0, .slice none 0 0] 25 (0, 0)) (nb_ BK229.out) hb)
    have n3_ := Aside0.mk (below_step (ne_ HB.out) hb)
    have n4_ := Aside0.mk (hbox)
    have n5_ := Aside0.mk (zs_ hg (ne_ HB.out))
    have n6_ := Aside0.mk (zs_ hg (ne_ HB.out))
    have n7_ := Aside0.mk (nl_ BK228.out hg)
    have n8_ := Aside0.mk (nm_ BK228.out hg)
    have n9_ := Aside0.mk (nl_ BK229.out hg)
    have n10_ := Aside0.mk (nm_ BK229.out hg)
    clear HO232
    clear BK228
    clear BK229
    clear HB
    have HO232 := n0_
    have BK228 := n1_
    have BK229 := n2_
    have HB := n3_
    have BK233 := n4_
    have GW233 := n5_
    have GE233 := n6_
    have NB228_233 := n7_
    have NB233_228 := n8_
    have NB229_233 := n9_
    have NB233_229 := n10_
    clear n0_ n1_ n2_ n3_ n4_ n5_ n6_ n7_ n8_ n9_ n10_
    clear hb hbox hg
    refine hK.out _ _ ⟨(blk_cell BK228.out 0).trans rfl, (blk_cell BK228.out 1).trans rfl⟩ (fun hHeld => ?_)
    clear hK K
    refine norm_ (a' := ?_) ?_ ?_
    rotate_left
    ·show Act.put _ (some 3) _ = _
     simp only [Act.put, List.setIfInBounds_toArray, List.set_cons_zero, List.set_cons_succ, i64_w, i32_w]
     rfl
    exact norm_ (by simp only [putAll, Act.put, List.setIfInBounds_toArray, List.set_cons_zero, List.set_cons_succ]) (hCont (.slice Ao9 y230.length co9, gb233) _ ⟨hHeld, (nr_ HO232.out), (nb_ BK228.out), (nb_ BK229.out), (nb_ BK233.out), GW233.out, GE233.out, NB228_233.out, NB233_228.out, NB229_233.out, NB233_229.out, (ne_ HB.out)⟩)
   ·skip
    refine box_step ?hg (N := 3) ?hd (cs := #[.int .i64 0, .slice none 0 0]) (t := 25) ?hr ?_; (case hd => rfl); (case hg => rfl); (case hr => first | (go_simp; done) | (go_simp; rfl))
    intro gb233 hg w7 hbox hb
    have n0_ := Aside0.mk (blk_below (g := gb228) (o := .cells #[.int .i64 a0_0, .slice A0_1 l0_1.length c0_1] 25 (0, 0)) (nb_ BK228.out) hb)
    have n1_ := Aside0.mk (blk_below (g := gb229) (o := .cells #[.int .i64 0, .slice none 0 0] 25 (0, 0)) (nb_ BK229.out) hb)
    have n2_ := Aside0.mk (below_step (ne_ HB.out) hb)
    have n3_ := Aside0.mk (hbox)
    have n4_ := Aside0.mk (zs_ hg (ne_ HB.out))
    have n5_ := Aside0.mk (zs_ hg (ne_ HB.out))
    have n6_ := Aside0.mk (nl_ BK228.out hg)
    have n7_ := Aside0.mk (nm_ BK228.out hg)
    have n8_ := Aside0.mk (nl_ BK229.out hg)
    have n9_ := Aside0.mk (nm_ BK229.out hg)
    clear BK228
    clear BK229
    clear HB
    have BK228 := n0_
    have BK229 := n1_
    have HB := n2_
    have BK233 := n3_
    have GW233 := n4_
    have GE233 := n5_
    have NB228_233 := n6_
    have NB233_228 := n7_
    have NB229_233 := n8_
    have NB233_229 := n9_
    clear n0_ n1_ n2_ n3_ n4_ n5_ n6_ n7_ n8_ n9_
    clear hb hbox hg
    refine hK.out _ _ ⟨(blk_cell BK228.out 0).trans rfl, (blk_cell BK228.out 1).trans rfl⟩ (fun hHeld => ?_)
    clear hK K
    refine norm_ (a' := ?_) ?_ ?_
    rotate_left
    ·show Act.put _ (some 3) _ = _
     simp only [Act.put, List.setIfInBounds_toArray, List.set_cons_zero, List.set_cons_succ, i64_w, i32_w]
     rfl
    refine one_ (i := 5) (N := some 11) #[true, true, true, true, true, true, false, true, false] rfl rfl (one_of HT_.out (by kernel_rfl)) (by decide) (fun K hK => ?_)
    refine Go.Proofs.YtbmoonciggfbpaaX.Kd.R_make0_step k33 _ 33 (by rfl) (N := 11) rfl 23 _ _ rfl (l0_1.length : Int) rfl rfl Try.underlying23 (.agg #[(.int .i64 0), (.int .i64 0), (.int .i64 0), (.int .i64 0), (.int .i64 0)]) 40 info33 (by omega) (ok := fun _ => True) trivial (of_decide_eq_true nx_) (Nat.le_trans (Nat.mul_le_mul_right _ (of_decide_eq_true nx_ : ((l0_1.length : Int) : Int).toNat ≤ 7036874417766)) (by omega)) (Below.refl _ _) (Nat.le_refl _) ?_
    intro v231 w8 ho9 hb hg_ hnew_
    clear hg_ hnew_
    (first | rw [← Ny230.out] at ho9 | (simp only [Int.reduceToNat] at ho9; rw [← Ny230.out] at ho9))
    have n0_ := Aside0.mk (Kd.R_lower ho9 (below_size (ne_ HB.out)))
    have n1_ := Aside0.mk (blk_below (g := gb228) (o := .cells #[.int .i64 a0_0, .slice A0_1 l0_1.length c0_1] 25 (0, 0)) (nb_ BK228.out) hb)
    have n2_ := Aside0.mk (blk_below (g := gb229) (o := .cells #[.int .i64 0, .slice none 0 0] 25 (0, 0)) (nb_ BK229.out) hb)
    have n3_ := Aside0.mk (blk_below (g := gb233) (o := .cells #[.int .i64 0, .slice none 0 0] 25 (0, 0)) (nb_ BK233.out) hb)
    have n4_ := Aside0.mk (below_step (ne_ HB.out) hb)
    clear BK228
    clear BK229
    clear BK233
    clear HB
    have HO232 := n0_
    have BK228 := n1_
    have BK229 := n2_
    have BK233 := n3_
    have HB := n4_
    clear n0_ n1_ n2_ n3_ n4_
    clear hb ho9
    obtain ⟨Ao10, co10, eo10⟩ := Kd.R_slice HO232.out
    (first | subst eo10 | (injection eo10 with f1_ f2_ f3_; have f4_ := f1_.symm; have f5_ := f3_.symm; clear f1_ f2_ f3_; subst f4_; subst f5_))
    refine hK.out _ _ ⟨(blk_cell BK228.out 0).trans rfl, (blk_cell BK228.out 1).trans rfl⟩ (fun hHeld => ?_)
    clear hK K
    refine norm_ (a' := ?_) ?_ ?_
    rotate_left
    ·show Act.put _ (some 11) _ = _
     simp only [Act.put, List.setIfInBounds_toArray, List.set_cons_zero, List.set_cons_succ, i64_w, i32_w]
     rfl
    refine pu_ 6 12 z47_0 HT_.out ?_
    exact norm_ (by simp only [putAll, Act.put, List.setIfInBounds_toArray, List.set_cons_zero, List.set_cons_succ]) (hCont (.slice Ao10 y230.length co10, gb233) _ ⟨hHeld, (nr_ HO232.out), (nb_ BK228.out), (nb_ BK229.out), (nb_ BK233.out), GW233.out, GE233.out, NB228_233.out, NB233_228.out, NB229_233.out, NB233_229.out, (ne_ HB.out)⟩)
  rintro ⟨v231, gb233⟩ w11 ⟨hS_, h0_, h1_, h2_, h3_, h4_, h5_, h6_, h7_, h8_, h9_, h10_⟩
  have n0_ : Aside0 (Kd.R k33 33 w11 w.heap.size (fun _ => True) v231 y230) := ⟨h0_⟩
  have n1_ : Aside0 (w11.heap[gb228]? = some (.cells #[.int .i64 a0_0, .slice A0_1 l0_1.length c0_1] 25 (0, 0))) := ⟨h1_⟩
  have n2_ : Aside0 (w11.heap[gb229]? = some (.cells #[.int .i64 0, .slice none 0 0] 25 (0, 0))) := ⟨h2_⟩
  have n3_ : Aside0 (w11.heap[gb233]? = some (.cells #[.int .i64 0, .slice none 0 0] 25 (0, 0))) := ⟨h3_⟩
  have n4_ : Aside0 (w.heap.size ≤ gb233) := ⟨h4_⟩
  have n5_ : Aside0 (w.heap.size ≤ gb233) := ⟨h5_⟩
  have n6_ : Aside0 (gb228 ≠ gb233) := ⟨h6_⟩
  have n7_ : Aside0 (gb233 ≠ gb228) := ⟨h7_⟩
  have n8_ : Aside0 (gb229 ≠ gb233) := ⟨h8_⟩
  have n9_ : Aside0 (gb233 ≠ gb229) := ⟨h9_⟩
  have n10_ : Aside0 (Below w.heap.size w w11) := ⟨h10_⟩
  clear BK228
  clear BK229
  clear HB
  clear h0_ h1_ h2_ h3_ h4_ h5_ h6_ h7_ h8_ h9_ h10_
  have HO232 := n0_
  have BK228 := n1_
  have BK229 := n2_
  have BK233 := n3_
  have GW233 := n4_
  have GE233 := n5_
  have NB228_233 := n6_
  have NB233_228 := n7_
  have NB229_233 := n8_
  have NB233_229 := n9_
  have HB := n10_
  clear n0_ n1_ n2_ n3_ n4_ n5_ n6_ n7_ n8_ n9_ n10_
  have hHeld : w11.cell? ⟨gb228, 0, none⟩ = some (.int .i64 a0_0) ∧ w11.cell? ⟨gb228, 1, none⟩ = some (.slice A0_1 l0_1.length c0_1) := hS_
  obtain ⟨Ao12, co12, eo12⟩ := Kd.R_slice HO232.out
  (first | subst eo12 | (injection eo12 with f1_ f2_ f3_; have f4_ := f1_.symm; have f5_ := f3_.symm; clear f1_ f2_ f3_; subst f4_; subst f5_))
  refine norm_ (a' := ?_) ?_ ?_
  rotate_left
  ·simp only [putAll, Act.put, List.setIfInBounds_toArray, List.set_cons_zero, List.set_cons_succ]
   rfl
  refine one_ (i := 8) (N := none) #[true, true, true, true, true, true, true, true, true] rfl rfl (one_of HT_.out (by kernel_rfl)) (by decide) (fun K hK => ?_)
  have hs13 : w11.cell? ⟨gb233, 0, none⟩ = some (.int .i64 0) := (blk_cell BK233.out 0).trans rfl
  have hfs13 := blk_frozen BK233.out 0
  have hns13_0 := NB228_233.out
  have hns13_1 := NB229_233.out
  have hms13_0 := NB233_228.out
  have hms13_1 := NB233_229.out
  have hs14 : w11.cell? ⟨gb233, 1, none⟩ = some (.slice none 0 0) := (blk_cell BK233.out 1).trans rfl
  have hfs14 := blk_frozen BK233.out 1
  have hns14_0 := NB228_233.out
  have hns14_1 := NB229_233.out
  have hms14_0 := NB233_228.out
  have hms14_1 := NB233_229.out
  refine skip_ (w1 := ?_) (by rfl) rfl ?_ ?_
  rotate_left
  ·go_simp
   rfl
  refine hK.out _ _ ⟨((cell_far (p := ⟨gb233, _, none⟩) NB228_233.out _).trans (((cell_far (p := ⟨gb233, _, none⟩) NB228_233.out _).trans (hHeld.1)))), ((cell_far (p := ⟨gb233, _, none⟩) NB228_233.out _).trans (((cell_far (p := ⟨gb233, _, none⟩) NB228_233.out _).trans (hHeld.2))))⟩ (fun hHeld => ?_)
  clear hK K
  refine done_ (done_of HT_.out (by kernel_rfl)) ?_
  have hnb15 := NB228_229.out
  have hnc15 := NB229_228.out
  have hnb16 := NB228_233.out
  have hnc16 := NB233_228.out
  obtain ⟨hcz17_0, hcz17_1, hfz17_0, hfz17_1⟩ := cz2_ BK228.out
  try go_wp2
  go_loopg [16] k (fun kq v16 w' => ∃ (x16_1 : Int) (x234001_1 : List (S33)) (u234001 : Value), v16 = .int .i64 x16_1 ∧ Aside0 (impl_Net_back.l0 kq l0_1 (l0_1.length : Int) x16_1 a0_0 x234001_1 = some (r1, r2)) ∧ Aside0 (kq ≤ k) ∧ Aside0 (Kd.R k33 33 w' w.heap.size (fun _ => True) u234001 x234001_1) ∧ Aside0 (w'.heap[gb228]? = some (.cells #[.int .i64 a0_0, (.slice A0_1 l0_1.length c0_1)] 25 (0, 0))) ∧ Aside0 (w'.heap[gb229]? = some (.cells #[.int .i64 0, (.slice none 0 0)] 25 (0, 0))) ∧ Aside0 (w'.heap[gb233]? = some (.cells #[.int .i64 a0_0, u234001] 25 (0, 0))) ∧ Aside0 (Below w.heap.size w w'))
  case atStart => exact ⟨(0), (y230), (.slice Ao12 y230.length co12), ns_, H', ⟨Nat.le_refl _⟩, ⟨by (with_reducible repeat (first | apply Kd.R_alloc | apply Kd.R_drewN | apply Kd.R_drew)); exact Kd.R_mono (rf2_ (Kd.R_types HO232.out BK233.out (by decide))) (fun _ hk => trivial)⟩, ⟨np_ BK228.out⟩, ⟨np_ BK229.out⟩, ⟨np_ BK233.out⟩, ⟨ne_ HB.out⟩⟩
  case round =>
   clear H'
   try clear c1
   try clear c2
   try clear c2b0
   try clear c2b1
   try clear p2
   try clear c3
   try clear c3b0
   try clear c3b1
   try clear c4
   try clear c15
   try clear c16
   try clear hcz17_0
   try clear hcz17_1
   try clear hfz17_0
   try clear hfz17_1
   obtain ⟨x16_1, x234001_1, u234001, rfl, HA, HK1, HO_234001, BK228, BK229, BK233, HB⟩ := hrel
   cases gk with
   | zero => exact absurd HA.out (by simp [impl_Net_back.l0])
   | succ k1 =>
    have H := HA.out
    clear HA
    simp only [impl_Net_back.l0] at H
    by_cases c18 : x16_1 < (l0_1.length : Int)
    rotate_left
    ·rw [if_neg c18] at H
     have c18b0 : decide (x16_1 < (l0_1.length : Int)) = false := decide_eq_false c18
     clear c18
     simp only [Option.some.injEq, Prod.mk.injEq] at H
     obtain ⟨rfl, rfl⟩ := H
     have hnb33 := NB233_228.out
     have hnc33 := NB228_233.out
     have hnb34 := NB233_229.out
     have hnc34 := NB229_233.out
     obtain ⟨hcz35_0, hcz35_1, hfz35_0, hfz35_1⟩ := cz2_ BK233.out
     have hnb36 := NB229_228.out
     have hnc36 := NB228_229.out
     obtain ⟨hcz37_0, hcz37_1, hfz37_0, hfz37_1⟩ := cz2_ BK229.out
     obtain ⟨Ao38, co38, eo38⟩ := Kd.R_slice HO_234001.out
     subst eo38
     go_wp2
     refine bodyPost_ret (results_cell_row rfl _ _ gb229 25 #[.int .i64 a0_0, .slice Ao38 x234001_1.length co38] (0, 0) _ rfl (np_ BK229.out) Try.underlying25 rfl (by kernel_rfl)) rfl ?_
     exact ⟨_, nw_, by (with_reducible repeat (first | apply Kd.R_alloc | apply Kd.R_drewN | apply Kd.R_drew)); exact Kd.R_mono (rf2_ (Kd.R_types HO_234001.out BK229.out (by decide))) (fun _ hk => trivial), ne_ HB.out⟩
    rw [if_pos c18] at H
    have c18b0 : decide (x16_1 < (l0_1.length : Int)) = true := decide_eq_true c18
    clear c18
    by_cases c19 : 0 ≤ x16_1
    rotate_left
    ·rw [if_neg c19] at H
     exact absurd H (by simp)
    rw [if_pos c19] at H
    have c19b0 : decide (0 ≤ x16_1) = true := decide_eq_true c19
    clear c19
    by_cases c20 : x16_1 < (l0_1.length : Int)
    rotate_left
    ·rw [if_neg c20] at H
     exact absurd H (by simp)
    rw [if_pos c20] at H
    have c20b0 : decide (x16_1 < (l0_1.length : Int)) = true := decide_eq_true c20
    clear c20
    by_cases c21 : x234001_1.length < 3518437208883
    rotate_left
    ·rw [if_neg c21] at H
     exact absurd H (by simp)
    rw [if_pos c21] at H
    have LMc21 := Aside0.mk c21
    clear c21
    obtain ⟨y236, hy236⟩ : ∃ y_ : List (S33), y_ = (x234001_1 ++ [(⟨(rd_T33 l0_1 x16_1).f1, (rd_T33 l0_1 x16_1).f0, (rd_T33 l0_1 x16_1).f2, (rd_T33 l0_1 x16_1).f3, (rd_T33 l0_1 x16_1).f4⟩ : S33)]) := ⟨_, rfl⟩
    replace H : (impl_Net_back.l0 k1 l0_1 (l0_1.length : Int) (wrap64 (x16_1 + 1)) a0_0 y236) = some (r1, r2) := by first | (rw [hy236]; with_reducible exact H) | (have H2_ := (Option.bind_some _ _).symm.trans H; rw [hy236]; with_reducible exact H2_) | (have H2_ := (Option.bind_some _ _).symm.trans H; with_reducible exact H2_) | with_reducible exact H | (rw [hy236]; exact H) | exact H
    have Ny236 := Aside0.mk hy236
    clear hy236
    have H' := Aside0.mk H
    clear H
    have p234 : 0 ≤ (x16_1 : Int) := of_decide_eq_true nx_
    have q234 : x16_1 < (l0_1.length : Int) := of_decide_eq_true nx_
    obtain ⟨ad234, e234, hx234_0, hx234_1, hx234_2, hx234_3, hx234_4⟩ := at_T33 HR0_1.out x16_1 p234 q234
    cases e234
    replace hx234_0 := hb_ HB.out hx234_0
    replace hx234_1 := hb_ HB.out hx234_1
    replace hx234_2 := hb_ HB.out hx234_2
    replace hx234_3 := hb_ HB.out hx234_3
    replace hx234_4 := hb_ HB.out hx234_4
    replace p234 := eq_true p234
    replace q234 := eq_true q234
    go_wp2_with (first | ((with_reducible refine gate_dst (N := 5) rfl ?_); refine bx_ 5 #[.int .i64 0, .int .i64 0, .int .i64 0, .int .i64 0, .int .i64 0] 33 ?_; intro gb235 hg w22 hbox hb; have BK235 := Aside0.mk (hbox); have GW235 := Aside0.mk (zs_ hg (ne_ HB.out)); have GE235 := Aside0.mk (zs_ hg (ne_ HB.out)); have NB228_235 := Aside0.mk (nl_ BK228.out hg); have NB235_228 := Aside0.mk (nm_ BK228.out hg); have NB229_235 := Aside0.mk (nl_ BK229.out hg); have NB235_229 := Aside0.mk (nm_ BK229.out hg); have NB233_235 := Aside0.mk (nl_ BK233.out hg); have NB235_233 := Aside0.mk (nm_ BK233.out hg); replace HO_234001 := Aside0.mk (Kd.R_below (Kd.R_elderB (nr_ HO_234001.out) gb235 (Nat.le_of_eq hg.symm)) hb); replace BK228 := kb_ BK228 hb; replace BK229 := kb_ BK229 hb; replace BK233 := kb_ BK233 hb; replace HB := kB_ HB hb; clear hb hbox hg; have hnb23 := NB235_228.out; have hnc23 := NB228_235.out; have hnb24 := NB235_229.out; have hnc24 := NB229_235.out; have hnb25 := NB235_233.out; have hnc25 := NB233_235.out; obtain ⟨hcz26_0, hcz26_1, hcz26_2, hcz26_3, hcz26_4, hfz26_0, hfz26_1, hfz26_2, hfz26_3, hfz26_4⟩ := cz5_ BK235.out; have hnb27 := NB233_228.out; have hnc27 := NB228_233.out; have hnb28 := NB233_229.out; have hnc28 := NB229_233.out; obtain ⟨hcz29_0, hcz29_1, hfz29_0, hfz29_1⟩ := cz2_ BK233.out) | ((with_reducible refine gate_builtin (b := .append) (xs := #[.tmp 27, .tmp 29]) rfl ?_); at_builtin; refine Kd.R_append k33 (w0 := w) w.heap.size rfl (.tmp 27) (.tmp 29) 23 33 (.agg #[(.int .i64 0), (.int .i64 0), (.int .i64 0), (.int .i64 0), (.int .i64 0)]) 40 rfl Try.underlying23 info33 rfl (by decide) (by omega) u234001 x234001_1 (⟨(rd_T33 l0_1 x16_1).f1, (rd_T33 l0_1 x16_1).f0, (rd_T33 l0_1 x16_1).f2, (rd_T33 l0_1 x16_1).f3, (rd_T33 l0_1 x16_1).f4⟩ : S33) [.int .i64 ((rd_T33 l0_1 x16_1).f1), .int .i64 ((rd_T33 l0_1 x16_1).f0), .int .i64 ((rd_T33 l0_1 x16_1).f2), .int .i64 ((rd_T33 l0_1 x16_1).f3), .int .i64 ((rd_T33 l0_1 x16_1).f4)] (fun k_ => k_ ≠ gb235) (fun _ => False) rfl (by first | (go_simp; done) | (go_simp; rfl)) ?aP (fun _ hk => hk.elim) ?aF ?aO ?aB ?aS ?aL ?_; (case aP => exact k33_mkM _ _ _ (⟨(rd_T33 l0_1 x16_1).f1, (rd_T33 l0_1 x16_1).f0, (rd_T33 l0_1 x16_1).f2, (rd_T33 l0_1 x16_1).f3, (rd_T33 l0_1 x16_1).f4⟩ : S33)); (case aB => exact (ne_ HB.out)); (case aF => exact (fun k_ hk => Kd.freshB (g := gb235) (o := .cells #[.int .i64 ((rd_T33 l0_1 x16_1).f1), .int .i64 ((rd_T33 l0_1 x16_1).f0), .int .i64 ((rd_T33 l0_1 x16_1).f2), .int .i64 ((rd_T33 l0_1 x16_1).f3), .int .i64 ((rd_T33 l0_1 x16_1).f4)] 33 (0, 0)) (np_ BK235.out) k_ hk)); (case aO => exact (by (with_reducible repeat (first | apply Kd.R_alloc | apply Kd.R_drewN | apply Kd.R_drew)); exact Kd.R_mono (rf2_ (rf5_ (Kd.R_mono HO_234001.out (fun k_ hk => (⟨hk, hk.2⟩ : _ ∧ k_ ≠ gb235))))) (fun _ hk => by first | exact hk.1.2 | trivial | simp_all))); (case aS => exact (below_size (ne_ HB.out))); (case aL => have := LMc21.out; omega); intro v237 w30 ho hb hg hat; rw [← Ny236.out] at ho; have HO238 := Aside0.mk (ho); replace BK228 := Aside0.mk (blk_grown (g := gb228) (o := .cells #[.int .i64 a0_0, .slice (some ad234) l0_1.length c0_1] 25 (0, 0)) (nbf_ BK228.out) hg (Kd.R_ne HO_234001.out BK228.out (by decide))); replace BK229 := Aside0.mk (blk_grown (g := gb229) (o := .cells #[.int .i64 0, .slice none 0 0] 25 (0, 0)) (nbf_ BK229.out) hg (Kd.R_ne HO_234001.out BK229.out (by decide))); replace BK233 := Aside0.mk (blk_grown (g := gb233) (o := .cells #[.int .i64 a0_0, u234001] 25 (0, 0)) (nbf_ BK233.out) hg (Kd.R_ne HO_234001.out BK233.out (by decide))); replace BK235 := Aside0.mk (blk_grown (g := gb235) (o := .cells #[.int .i64 ((rd_T33 l0_1 x16_1).f1), .int .i64 ((rd_T33 l0_1 x16_1).f0), .int .i64 ((rd_T33 l0_1 x16_1).f2), .int .i64 ((rd_T33 l0_1 x16_1).f3), .int .i64 ((rd_T33 l0_1 x16_1).f4)] 33 (0, 0)) (np_ BK235.out) hg (Kd.R_away HO_234001.out (fun _ hk => hk.2))); replace HB := Aside0.mk (hb); clear HO_234001; clear ho hb hg hat; obtain ⟨Ao31, co31, eo31⟩ := Kd.R_slice HO238.out; subst eo31; obtain ⟨hcz32_0, hcz32_1, hfz32_0, hfz32_1⟩ := cz2_ BK233.out))
    go_roundg k1
    case measure => have := HK1.out; omega
    case rel => exact ⟨(wrap64 (x16_1 + 1)), (y236), (.slice Ao31 y236.length co31), ns_, H', ⟨by have := HK1.out; omega⟩, ⟨by (with_reducible repeat (first | apply Kd.R_alloc | apply Kd.R_drewN | apply Kd.R_drew)); exact Kd.R_mono (Kd.R_far (p := ⟨gb233, 1, none⟩) (Kd.R_types HO238.out BK233.out (by decide)) (fun _ hk => hk.2) (.slice Ao31 y236.length co31)) (fun _ hk => trivial)⟩, ⟨np_ BK228.out⟩, ⟨np_ BK229.out⟩, ⟨np_ BK233.out⟩, ⟨ne_ HB.out⟩⟩
end Go.Proofs.Ytbmoonciggfbpaa.Print
