-- Made by this session's own program (wip/patch_print.py, over the kit's print). Lean checks it.
import Derived.Test.YtpjmkghmjpbldaaPrint0
import Derived.Test.YtpjmkghmjpbldaaPrintF60
namespace Go.Proofs.Ytpjmkghmjpbldaa.Print
open Go.RowKit Go.Proofs.YtpjmkghmjpbldaaW.PrintWords Go.Proofs.YtpjmkghmjpbldaaW.PrintLast Go.Proofs.YtpjmkghmjpbldaaW.PrintMore Go.Proofs.YtpjmkghmjpbldaaX
attribute [local go_sem] max2_int min2_int max_two min_two max_three min_three max_four min_four   -- for this text's walks alone
set_option linter.unusedVariables false
set_option linter.unusedSimpArgs false

/-! ### spec_NetOut: function 31 -/
mutual
def spec_NetOut.l0 : Nat → Int → List Int → Int → Int → List (S37) → Option (List Int)
  | 0, _, _, _, _, _ => none
  | k + 1, x1, x5, x6, x343000, x343001 => if x6 < (x343001.length : Int) then ((spec_l1Ok.f k x343000 x343001).bind fun t346 => (spec_NetOut.j1 k x1 x5 x6 t346 x343000 x343001)) else (spec_NetOut.j1 k x1 x5 x6 false x343000 x343001)
def spec_NetOut.j1 : Nat → Int → List Int → Int → Bool → Int → List (S37) → Option (List Int)
  | 0, _, _, _, _, _, _ => none
  | k + 1, x1, x5, x6, x16, x343000, x343001 => if x16 = true then (if 0 ≤ x6 then (if x6 < (x343001.length : Int) then (if ((rd_T37 x343001 x6).f0) = x1 then (if x5.length < 17592186044416 then (spec_NetOut.l0 k x1 (x5 ++ [x6]) (wrap64 (x6 + 1)) x343000 x343001) else (none)) else (spec_NetOut.l0 k x1 x5 (wrap64 (x6 + 1)) x343000 x343001)) else (none)) else (none)) else (some x5)
end
def spec_NetOut.f (k : Nat) (a0_0 : Int) (l0_1 : List (S37)) (a1 : Int) : Option (List Int) := spec_NetOut.l0 k a1 (([] : List Int)) 0 a0_0 l0_1
theorem spec_NetOut.mono_l : ∀ k, (∀ y0 y1 y2 y3 y4, LeO (spec_NetOut.l0 k y0 y1 y2 y3 y4) (spec_NetOut.l0 (k + 1) y0 y1 y2 y3 y4)) ∧ (∀ y0 y1 y2 y3 y4 y5, LeO (spec_NetOut.j1 k y0 y1 y2 y3 y4 y5) (spec_NetOut.j1 (k + 1) y0 y1 y2 y3 y4 y5))
  | 0 => ⟨fun _ _ _ _ _ r h => by simp [spec_NetOut.l0] at h, fun _ _ _ _ _ _ r h => by simp [spec_NetOut.j1] at h⟩
  | k + 1 => by
    obtain ⟨ih0, ih1⟩ := spec_NetOut.mono_l k
    refine ⟨?_, ?_⟩
    · intro y0 y1 y2 y3 y4
      unfold spec_NetOut.l0
      repeat' first | (with_reducible first | exact ih0 _ _ _ _ _ | exact ih1 _ _ _ _ _ _ | exact spec_l1Ok.mono _ _ _ | exact LeO.refl _ | exact LeO.none _ | refine LeO.ite ?_ ?_ | refine LeO.bind ?_ (fun _ => ?_)) | exact ih0 _ _ _ _ _ | exact ih1 _ _ _ _ _ _ | exact spec_l1Ok.mono _ _ _ | exact LeO.none _ | refine LeO.ite ?_ ?_ | refine LeO.bind ?_ (fun _ => ?_)
    · intro y0 y1 y2 y3 y4 y5
      unfold spec_NetOut.j1
      repeat' first | (with_reducible first | exact ih0 _ _ _ _ _ | exact ih1 _ _ _ _ _ _ | exact spec_l1Ok.mono _ _ _ | exact LeO.refl _ | exact LeO.none _ | refine LeO.ite ?_ ?_ | refine LeO.bind ?_ (fun _ => ?_)) | exact ih0 _ _ _ _ _ | exact ih1 _ _ _ _ _ _ | exact spec_l1Ok.mono _ _ _ | exact LeO.none _ | refine LeO.ite ?_ ?_ | refine LeO.bind ?_ (fun _ => ?_)
theorem spec_NetOut.mono : ∀ a0 a1 a2 k, LeO (spec_NetOut.f k a0 a1 a2) (spec_NetOut.f (k + 1) a0 a1 a2) := by
  intro a0 a1 a2 k
  obtain ⟨ih0, ih1⟩ := spec_NetOut.mono_l k
  unfold spec_NetOut.f
  repeat' first | (with_reducible first | exact ih0 _ _ _ _ _ | exact ih1 _ _ _ _ _ _ | exact spec_l1Ok.mono _ _ _ | exact LeO.refl _ | exact LeO.none _ | refine LeO.ite ?_ ?_ | refine LeO.bind ?_ (fun _ => ?_)) | exact ih0 _ _ _ _ _ | exact ih1 _ _ _ _ _ _ | exact spec_l1Ok.mono _ _ _ | exact LeO.none _ | refine LeO.ite ?_ ?_ | refine LeO.bind ?_ (fun _ => ?_)
set_option maxHeartbeats 200000000 in
set_option maxRecDepth 100000 in
theorem spec_NetOut.calls (k : Nat) (a0_0 : Int) (A0_1 : Option Addr) (c0_1 : Nat) (l0_1 : List (S37)) (a1 : Int) (r : List Int) (w : World) (hr0_1 : Kd.C k37 w A0_1 l0_1.length l0_1) (hc0_1 : l0_1.length ≤ c0_1) (h : spec_NetOut.f k a0_0 l0_1 a1 = some r) :
    Calls Try.prog 31 #[.agg #[.int .i64 a0_0, .slice A0_1 l0_1.length c0_1], .int .i64 a1] w fun e w' => ∃ v0_ : Value, e = .returned (v0_) ∧ Kd.R (Kd.int .i64) 3 w' w.heap.size (fun _ => True) v0_ r ∧ Below w.heap.size w w' := by
  have hu29 := Try.underlying29
  have HR0_1 := Aside0.mk hr0_1
  have HC0_1 := Aside0.mk hc0_1
  clear hr0_1 hc0_1
  have HB := Aside0.mk (Below.refl w.heap.size w)
  have H : (spec_NetOut.l0 k a1 (([] : List Int)) 0 a0_0 l0_1) = some r := h
  clear h
  obtain ⟨y343, hy343⟩ : ∃ y_ : List Int, y_ = (([] : List Int)) := ⟨_, rfl⟩
  replace H : (spec_NetOut.l0 k a1 y343 0 a0_0 l0_1) = some r := by first | (rw [hy343]; with_reducible exact H) | (have H2_ := (Option.bind_some _ _).symm.trans H; rw [hy343]; with_reducible exact H2_) | (have H2_ := (Option.bind_some _ _).symm.trans H; with_reducible exact H2_) | with_reducible exact H | (rw [hy343]; exact H) | exact H
  have Ny343 := Aside0.mk hy343
  clear hy343
  have H' := Aside0.mk H
  clear H
  go_enter Try.func31, Try.ntmps31
  go_wp2_with (first | ((with_reducible refine gate_dst (N := 2) rfl ?_); refine bx_ 2 #[.int .i64 a0_0, .slice A0_1 l0_1.length c0_1] 29 ?_; intro gb342 hg w3 hbox hb; have BK342 := Aside0.mk (hbox); have GW342 := Aside0.mk (zs_ hg (ne_ HB.out)); have GE342 := Aside0.mk (zs_ hg (ne_ HB.out)); replace HB := kB_ HB hb; clear hb hbox hg) | ((with_reducible refine gate_dst (N := 7) rfl ?_); refine li_ 7 3 [] [] ?_; intro v344 w4 ho5 hb hg_ hnew_; clear hg_ hnew_; (first | rw [← Ny343.out] at ho5 | (simp only [Int.reduceToNat] at ho5; rw [← Ny343.out] at ho5)); have HO345 := Aside0.mk (Kd.R_lower ho5 (below_size (ne_ HB.out))); replace BK342 := kb_ BK342 hb; replace HB := kB_ HB hb; clear hb ho5))
  go_loopg [5, 6] k (fun kq v5 v6 w' => ∃ (x5_1 : List Int) (x6_1 : Int), v6 = .int .i64 x6_1 ∧ Aside0 (spec_NetOut.l0 kq a1 x5_1 x6_1 a0_0 l0_1 = some r) ∧ Aside0 (kq ≤ k) ∧ Aside0 (Kd.R (Kd.int .i64) 3 w' w.heap.size (fun _ => True) v5 x5_1) ∧ Aside0 (w'.heap[gb342]? = some (.cells #[.int .i64 a0_0, (.slice A0_1 l0_1.length c0_1)] 29 (0, 0))) ∧ Aside0 (Below w.heap.size w w'))
  case atStart => exact ⟨(y343), (0), ns_, H', ⟨Nat.le_refl _⟩, ⟨nr_ HO345.out⟩, ⟨nb_ BK342.out⟩, ⟨ne_ HB.out⟩⟩
  case round =>
   clear H'
   obtain ⟨x5_1, x6_1, rfl, HA, HK1, HO_5, BK342, HB⟩ := hrel
   cases gk with
   | zero => exact absurd HA.out (by simp [spec_NetOut.l0])
   | succ k1 =>
    have H := HA.out
    clear HA
    simp only [spec_NetOut.l0] at H
    have HC6 := Aside0.mk H
    clear H
    go_upto_region 3 with (fail)
    go_cut [16] (fun v16 wc => ∃ (kq : Nat) (x16_5 : Bool), v16 = .bool x16_5 ∧ Aside0 (spec_NetOut.j1 kq a1 x5_1 x6_1 x16_5 a0_0 l0_1 = some r) ∧ Aside0 (kq ≤ k1) ∧ Aside0 (Kd.R (Kd.int .i64) 3 wc w.heap.size (fun _ => True) u5 x5_1) ∧ Aside0 (wc.heap[gb342]? = some (.cells #[.int .i64 a0_0, (.slice A0_1 l0_1.length c0_1)] 29 (0, 0))) ∧ Aside0 (Below w.heap.size w wc))
    case first =>
     have H := HC6.out
     clear HC6
     by_cases c7 : x6_1 < (l0_1.length : Int)
     rotate_left
     ·rw [if_neg c7] at H
      have c7b0 : decide (x6_1 < (l0_1.length : Int)) = false := decide_eq_false c7
      clear c7
      (first | rw [c7b0] | (simp only [i64_w, i32_w]; rw [c7b0]) | skip)
      have H' := Aside0.mk H
      clear H
      obtain ⟨hcz11_0, hcz11_1, hfz11_0, hfz11_1⟩ := cz2_ BK342.out
      go_wp2
      go_meet
      case rel => exact ⟨_, (false), ns_, H', ⟨by have := HK1.out; first | omega | exact Nat.le_refl _⟩, ⟨nr_ HO_5.out⟩, ⟨nb_ BK342.out⟩, ⟨ne_ HB.out⟩⟩
     rw [if_pos c7] at H
     have c7b0 : decide (x6_1 < (l0_1.length : Int)) = true := decide_eq_true c7
     clear c7
     (first | rw [c7b0] | (simp only [i64_w, i32_w]; rw [c7b0]) | skip)
     replace H := Option.bind_eq_some_iff.mp H
     obtain ⟨t346, A80, H⟩ := H
     replace H : (spec_NetOut.j1 k1 a1 x5_1 x6_1 t346 a0_0 l0_1) = some r := H
     have A8 := Aside0.mk A80
     clear A80
     have H' := Aside0.mk H
     clear H
     obtain ⟨hcz9_0, hcz9_1, hfz9_0, hfz9_1⟩ := cz2_ BK342.out
     go_wp2_with (first | (go_at_call 60; (with_reducible refine (spec_l1Ok.calls k1 a0_0 _ _ l0_1 t346 _ ?side1 ?side2 A8.out).mono ?_); (case side1 => exact nc_ (Kd.C_below HR0_1.out HB.out)); (case side2 => exact HC0_1.out); rintro e w10 ⟨rfl, hb⟩; replace HO_5 := kR_ HO_5 hb; replace BK342 := kb_ BK342 hb; replace HB := kB_ HB hb; (try clear hb); (try clear hb2); (try clear hk); (try clear hi)))
     go_meet
     case rel => exact ⟨_, (t346), ns_, H', ⟨by have := HK1.out; first | omega | exact Nat.le_refl _⟩, ⟨nr_ HO_5.out⟩, ⟨nb_ BK342.out⟩, ⟨ne_ HB.out⟩⟩
    case rest =>
     clear HC6
     obtain ⟨kq, x16_5, rfl, HA, HJ5, HO_5, BK342, HB⟩ := hcut
     cases kq with
     | zero => exact absurd HA.out (by simp [spec_NetOut.j1])
     | succ kj5 =>
      have H := HA.out
      clear HA
      simp only [spec_NetOut.j1] at H
      by_cases c12 : x16_5 = true
      rotate_left
      ·replace c12 := Bool.eq_false_iff.mpr c12
       subst c12
       have H1 : (some x5_1) = some r := by rw [if_neg (show ¬ (false = true) by decide)] at H; exact H
       clear H
       have H := H1
       clear H1
       obtain rfl := Option.some.inj H
       go_wp2
       go_ret
       exact ⟨_, nw_, nr_ HO_5.out, ne_ HB.out⟩

      subst c12
      rw [if_pos rfl] at H
      by_cases c13 : 0 ≤ x6_1
      rotate_left
      ·rw [if_neg c13] at H
       exact absurd H (by simp)
      rw [if_pos c13] at H
      have c13b0 : decide (0 ≤ x6_1) = true := decide_eq_true c13
      clear c13
      by_cases c14 : x6_1 < (l0_1.length : Int)
      rotate_left
      ·rw [if_neg c14] at H
       exact absurd H (by simp)
      rw [if_pos c14] at H
      have c14b0 : decide (x6_1 < (l0_1.length : Int)) = true := decide_eq_true c14
      clear c14
      by_cases c15 : ((rd_T37 l0_1 x6_1).f0) = a1
      rotate_left
      ·rw [if_neg c15] at H
       have c15b0 : (((rd_T37 l0_1 x6_1).f0) == a1) = false := beq_eq_false_iff_ne.mpr c15
       have c15b1 : (((rd_T37 l0_1 x6_1).f0) != a1) = true := bne_iff_ne.mpr c15
       have H' := Aside0.mk H
       clear H
       obtain ⟨hcz19_0, hcz19_1, hfz19_0, hfz19_1⟩ := cz2_ BK342.out
       have p347 : 0 ≤ (x6_1 : Int) := of_decide_eq_true nx_
       have q347 : x6_1 < (l0_1.length : Int) := of_decide_eq_true nx_
       obtain ⟨ad347, e347, hx347_0, hx347_1, hx347_2, hx347_3, hx347_4⟩ := at_T37 HR0_1.out x6_1 p347 q347
       cases e347
       replace hx347_0 := hb_ HB.out hx347_0
       replace hx347_1 := hb_ HB.out hx347_1
       replace hx347_2 := hb_ HB.out hx347_2
       replace hx347_3 := hb_ HB.out hx347_3
       replace hx347_4 := hb_ HB.out hx347_4
       replace p347 := eq_true p347
       replace q347 := eq_true q347
       go_wp2
       go_roundg kj5
       case measure => have := HK1.out; have := HJ5.out; omega
       case rel => exact ⟨(x5_1), (wrap64 (x6_1 + 1)), ns_, H', ⟨by have := HK1.out; have := HJ5.out; omega⟩, ⟨nr_ HO_5.out⟩, ⟨nb_ BK342.out⟩, ⟨ne_ HB.out⟩⟩
      rw [if_pos c15] at H
      have c15b0 : (((rd_T37 l0_1 x6_1).f0) == a1) = true := beq_iff_eq.mpr c15
      have c15b1 : (((rd_T37 l0_1 x6_1).f0) != a1) = false := bne_eq_false_iff_eq.mpr c15
      clear c15
      by_cases c16 : x5_1.length < 17592186044416
      rotate_left
      ·rw [if_neg c16] at H
       exact absurd H (by simp)
      rw [if_pos c16] at H
      have LMc16 := Aside0.mk c16
      clear c16
      obtain ⟨y348, hy348⟩ : ∃ y_ : List Int, y_ = (x5_1 ++ [x6_1]) := ⟨_, rfl⟩
      replace H : (spec_NetOut.l0 kj5 a1 y348 (wrap64 (x6_1 + 1)) a0_0 l0_1) = some r := by first | (rw [hy348]; with_reducible exact H) | (have H2_ := (Option.bind_some _ _).symm.trans H; rw [hy348]; with_reducible exact H2_) | (have H2_ := (Option.bind_some _ _).symm.trans H; with_reducible exact H2_) | with_reducible exact H | (rw [hy348]; exact H) | exact H
      have Ny348 := Aside0.mk hy348
      clear hy348
      have H' := Aside0.mk H
      clear H
      obtain ⟨hcz17_0, hcz17_1, hfz17_0, hfz17_1⟩ := cz2_ BK342.out
      have p347 : 0 ≤ (x6_1 : Int) := of_decide_eq_true nx_
      have q347 : x6_1 < (l0_1.length : Int) := of_decide_eq_true nx_
      obtain ⟨ad347, e347, hx347_0, hx347_1, hx347_2, hx347_3, hx347_4⟩ := at_T37 HR0_1.out x6_1 p347 q347
      cases e347
      replace hx347_0 := hb_ HB.out hx347_0
      replace hx347_1 := hb_ HB.out hx347_1
      replace hx347_2 := hb_ HB.out hx347_2
      replace hx347_3 := hb_ HB.out hx347_3
      replace hx347_4 := hb_ HB.out hx347_4
      replace p347 := eq_true p347
      replace q347 := eq_true q347
      go_wp2_with (first | ((with_reducible refine gate_builtin (b := .append) (xs := #[.tmp 27, .tmp 29]) rfl ?_); at_builtin; refine Kd.R_append (Kd.int .i64) (w0 := w) w.heap.size rfl (.tmp 27) (.tmp 29) 41 3 (.int .i64 0) 8 rfl Try.underlying41 info3 rfl (by decide) (by omega) u5 x5_1 x6_1 [.int .i64 x6_1] (fun _ => True) (fun _ => False) rfl rfl ?aP (fun _ hk => hk.elim) ?aF ?aO ?aB ?aS ?aL ?_; (case aP => exact rfl); (case aB => exact (ne_ HB.out)); (case aF => exact (fun _ _ => trivial)); (case aO => exact (nr_ HO_5.out)); (case aS => exact (below_size (ne_ HB.out))); (case aL => have := LMc16.out; omega); intro v349 w18 ho hb hg hat; rw [← Ny348.out] at ho; have HO350 := Aside0.mk (ho); replace BK342 := Aside0.mk (blk_grown (g := gb342) (o := .cells #[.int .i64 a0_0, .slice (some ad347) l0_1.length c0_1] 29 (0, 0)) (nb_ BK342.out) hg (Kd.R_ne HO_5.out BK342.out (by decide))); replace HB := Aside0.mk (hb); clear HO_5; clear ho hb hg hat))
      go_roundg kj5
      case measure => have := HK1.out; have := HJ5.out; omega
      case rel => exact ⟨(y348), (wrap64 (x6_1 + 1)), ns_, H', ⟨by have := HK1.out; have := HJ5.out; omega⟩, ⟨nr_ HO350.out⟩, ⟨nb_ BK342.out⟩, ⟨ne_ HB.out⟩⟩
end Go.Proofs.Ytpjmkghmjpbldaa.Print
