-- Made by this session's own program (wip/patch_print.py, over the kit's print). Lean checks it.
import Derived.Test.YtpjmkghmjpbldaaPrint0
import Derived.Test.YtpjmkghmjpbldaaPrintF60
import Derived.Test.YtpjmkghmjpbldaaPrintF83
namespace Go.Proofs.Ytpjmkghmjpbldaa.Print
open Go.RowKit Go.Proofs.YtpjmkghmjpbldaaW.PrintWords Go.Proofs.YtpjmkghmjpbldaaW.PrintLast Go.Proofs.YtpjmkghmjpbldaaW.PrintMore Go.Proofs.YtpjmkghmjpbldaaX
attribute [local go_sem] max2_int min2_int max_two min_two max_three min_three max_four min_four   -- for this text's walks alone
set_option linter.unusedVariables false
set_option linter.unusedSimpArgs false

/-! ### spec_WalkPlain: function 57 -/
mutual
def spec_WalkPlain.j0 : Nat → List Int → List Int → Bool → Int → List (S37) → Option (List Int)
  | 0, _, _, _, _, _ => none
  | k + 1, x1, x5, x18, x1087000, x1087001 => if x18 = true then (some ([] : List Int)) else (spec_WalkPlain.l0 k x1 x5 0 x1087000 x1087001)
def spec_WalkPlain.l0 : Nat → List Int → List Int → Int → Int → List (S37) → Option (List Int)
  | 0, _, _, _, _, _ => none
  | k + 1, x1, x5, x6, x1087000, x1087001 => if x6 < (x1.length : Int) then (if 0 ≤ x6 then (if 0 ≤ (rd x1 x6) then (if (rd x1 x6) < (x1087001.length : Int) then (spec_WalkPlain.l1 k x1 x5 x6 ((rd_T37 x1087001 (rd x1 x6)).f0) x6 x1087000 x1087001) else (none)) else (none)) else (none)) else (some x5)
def spec_WalkPlain.l1 : Nat → List Int → List Int → Int → Int → Int → Int → List (S37) → Option (List Int)
  | 0, _, _, _, _, _, _, _ => none
  | k + 1, x1, x5, x6, x7, x8, x1087000, x1087001 => if x8 < (x1.length : Int) then (if 0 ≤ x8 then (if 0 ≤ (rd x1 x8) then (if (rd x1 x8) < (x1087001.length : Int) then (if ((rd_T37 x1087001 (rd x1 x8)).f1) = x7 then (spec_WalkPlain.l1 k x1 x5 (wrap64 (x8 + 1)) x7 (wrap64 (x8 + 1)) x1087000 x1087001) else (spec_WalkPlain.l1 k x1 x5 x6 x7 (wrap64 (x8 + 1)) x1087000 x1087001)) else (none)) else (none)) else (none)) else (if x6 < (x1.length : Int) then (if 0 ≤ x6 then (if x5.length < 17592186044416 then (spec_WalkPlain.l0 k x1 (x5 ++ [rd x1 x6]) (wrap64 (x6 + 1)) x1087000 x1087001) else (none)) else (none)) else (spec_WalkPlain.l0 k x1 x5 (wrap64 (x6 + 1)) x1087000 x1087001))
end
def spec_WalkPlain.f (k : Nat) (a0_0 : Int) (l0_1 : List (S37)) (l1 : List Int) : Option (List Int) := (some (([] : List Int) : List Int)).bind fun y1087 => ((spec_l1Ok.f k a0_0 l0_1).bind fun t1090 => (if t1090 = true then ((spec_l2Ok.f k a0_0 l0_1 l1).bind fun t1091 => (spec_WalkPlain.j0 k l1 y1087 (!t1091) a0_0 l0_1)) else (spec_WalkPlain.j0 k l1 y1087 true a0_0 l0_1)))
theorem spec_WalkPlain.mono_l : ∀ k, (∀ y0 y1 y2 y3 y4, LeO (spec_WalkPlain.j0 k y0 y1 y2 y3 y4) (spec_WalkPlain.j0 (k + 1) y0 y1 y2 y3 y4)) ∧ (∀ y0 y1 y2 y3 y4, LeO (spec_WalkPlain.l0 k y0 y1 y2 y3 y4) (spec_WalkPlain.l0 (k + 1) y0 y1 y2 y3 y4)) ∧ (∀ y0 y1 y2 y3 y4 y5 y6, LeO (spec_WalkPlain.l1 k y0 y1 y2 y3 y4 y5 y6) (spec_WalkPlain.l1 (k + 1) y0 y1 y2 y3 y4 y5 y6))
  | 0 => ⟨fun _ _ _ _ _ r h => by simp [spec_WalkPlain.j0] at h, fun _ _ _ _ _ r h => by simp [spec_WalkPlain.l0] at h, fun _ _ _ _ _ _ _ r h => by simp [spec_WalkPlain.l1] at h⟩
  | k + 1 => by
    obtain ⟨ih0, ih1, ih2⟩ := spec_WalkPlain.mono_l k
    refine ⟨?_, ?_, ?_⟩
    · intro y0 y1 y2 y3 y4
      unfold spec_WalkPlain.j0
      repeat' first | (with_reducible first | exact ih0 _ _ _ _ _ | exact ih1 _ _ _ _ _ | exact ih2 _ _ _ _ _ _ _ | exact spec_l1Ok.mono _ _ _ | exact spec_l2Ok.mono _ _ _ _ | exact LeO.refl _ | exact LeO.none _ | refine LeO.ite ?_ ?_ | refine LeO.bind ?_ (fun _ => ?_)) | exact ih0 _ _ _ _ _ | exact ih1 _ _ _ _ _ | exact ih2 _ _ _ _ _ _ _ | exact spec_l1Ok.mono _ _ _ | exact spec_l2Ok.mono _ _ _ _ | exact LeO.none _ | refine LeO.ite ?_ ?_ | refine LeO.bind ?_ (fun _ => ?_)
    · intro y0 y1 y2 y3 y4
      unfold spec_WalkPlain.l0
      repeat' first | (with_reducible first | exact ih0 _ _ _ _ _ | exact ih1 _ _ _ _ _ | exact ih2 _ _ _ _ _ _ _ | exact spec_l1Ok.mono _ _ _ | exact spec_l2Ok.mono _ _ _ _ | exact LeO.refl _ | exact LeO.none _ | refine LeO.ite ?_ ?_ | refine LeO.bind ?_ (fun _ => ?_)) | exact ih0 _ _ _ _ _ | exact ih1 _ _ _ _ _ | exact ih2 _ _ _ _ _ _ _ | exact spec_l1Ok.mono _ _ _ | exact spec_l2Ok.mono _ _ _ _ | exact LeO.none _ | refine LeO.ite ?_ ?_ | refine LeO.bind ?_ (fun _ => ?_)
    · intro y0 y1 y2 y3 y4 y5 y6
      unfold spec_WalkPlain.l1
      repeat' first | (with_reducible first | exact ih0 _ _ _ _ _ | exact ih1 _ _ _ _ _ | exact ih2 _ _ _ _ _ _ _ | exact spec_l1Ok.mono _ _ _ | exact spec_l2Ok.mono _ _ _ _ | exact LeO.refl _ | exact LeO.none _ | refine LeO.ite ?_ ?_ | refine LeO.bind ?_ (fun _ => ?_)) | exact ih0 _ _ _ _ _ | exact ih1 _ _ _ _ _ | exact ih2 _ _ _ _ _ _ _ | exact spec_l1Ok.mono _ _ _ | exact spec_l2Ok.mono _ _ _ _ | exact LeO.none _ | refine LeO.ite ?_ ?_ | refine LeO.bind ?_ (fun _ => ?_)
theorem spec_WalkPlain.mono : ∀ a0 a1 a2 k, LeO (spec_WalkPlain.f k a0 a1 a2) (spec_WalkPlain.f (k + 1) a0 a1 a2) := by
  intro a0 a1 a2 k
  obtain ⟨ih0, ih1, ih2⟩ := spec_WalkPlain.mono_l k
  unfold spec_WalkPlain.f
  repeat' first | (with_reducible first | exact ih0 _ _ _ _ _ | exact ih1 _ _ _ _ _ | exact ih2 _ _ _ _ _ _ _ | exact spec_l1Ok.mono _ _ _ | exact spec_l2Ok.mono _ _ _ _ | exact LeO.refl _ | exact LeO.none _ | refine LeO.ite ?_ ?_ | refine LeO.bind ?_ (fun _ => ?_)) | exact ih0 _ _ _ _ _ | exact ih1 _ _ _ _ _ | exact ih2 _ _ _ _ _ _ _ | exact spec_l1Ok.mono _ _ _ | exact spec_l2Ok.mono _ _ _ _ | exact LeO.none _ | refine LeO.ite ?_ ?_ | refine LeO.bind ?_ (fun _ => ?_)
set_option maxHeartbeats 200000000 in
set_option maxRecDepth 100000 in
theorem spec_WalkPlain.calls (k : Nat) (a0_0 : Int) (A0_1 : Option Addr) (c0_1 : Nat) (l0_1 : List (S37)) (A1 : Option Addr) (c1 : Nat) (l1 : List Int) (r : List Int) (w : World) (hr0_1 : Kd.C k37 w A0_1 l0_1.length l0_1) (hc0_1 : l0_1.length ≤ c0_1) (hr1 : Kd.C (Kd.int .i64) w A1 l1.length l1) (hc1 : l1.length ≤ c1) (h : spec_WalkPlain.f k a0_0 l0_1 l1 = some r) :
    Calls Try.prog 57 #[.agg #[.int .i64 a0_0, .slice A0_1 l0_1.length c0_1], .slice A1 l1.length c1] w fun e w' => ∃ v0_ : Value, e = .returned (v0_) ∧ Kd.R (Kd.int .i64) 3 w' w.heap.size (fun _ => True) v0_ r ∧ Below w.heap.size w w' := by
  have hu29 := Try.underlying29
  have HR0_1 := Aside0.mk hr0_1
  have HC0_1 := Aside0.mk hc0_1
  clear hr0_1 hc0_1
  have HR1 := Aside0.mk hr1
  have HC1 := Aside0.mk hc1
  clear hr1 hc1
  have HB := Aside0.mk (Below.refl w.heap.size w)
  have H : ((some (([] : List Int) : List Int)).bind fun y1087 => ((spec_l1Ok.f k a0_0 l0_1).bind fun t1090 => (if t1090 = true then ((spec_l2Ok.f k a0_0 l0_1 l1).bind fun t1091 => (spec_WalkPlain.j0 k l1 y1087 (!t1091) a0_0 l0_1)) else (spec_WalkPlain.j0 k l1 y1087 true a0_0 l0_1)))) = some r := h
  clear h
  obtain ⟨y1087, hy1087⟩ : ∃ y_ : List Int, y_ = (([] : List Int)) := ⟨_, rfl⟩
  replace H : ((spec_l1Ok.f k a0_0 l0_1).bind fun t1090 => (if t1090 = true then ((spec_l2Ok.f k a0_0 l0_1 l1).bind fun t1091 => (spec_WalkPlain.j0 k l1 y1087 (!t1091) a0_0 l0_1)) else (spec_WalkPlain.j0 k l1 y1087 true a0_0 l0_1))) = some r := by first | (rw [hy1087]; with_reducible exact H) | (have H2_ := (Option.bind_some _ _).symm.trans H; rw [hy1087]; with_reducible exact H2_) | (have H2_ := (Option.bind_some _ _).symm.trans H; with_reducible exact H2_) | with_reducible exact H | (rw [hy1087]; exact H) | exact H
  have Ny1087 := Aside0.mk hy1087
  clear hy1087
  have HC3 := Aside0.mk H
  clear H
  go_enter Try.func57, Try.ntmps57
  go_upto_region 2 with (first | ((with_reducible refine gate_dst (N := 2) rfl ?_); refine bx_ 2 #[.int .i64 a0_0, .slice A0_1 l0_1.length c0_1] 29 ?_; intro gb1086 hg w4 hbox hb; have BK1086 := Aside0.mk (hbox); have GW1086 := Aside0.mk (zs_ hg (ne_ HB.out)); have GE1086 := Aside0.mk (zs_ hg (ne_ HB.out)); replace HB := kB_ HB hb; clear hb hbox hg) | ((with_reducible refine gate_dst (N := 9) rfl ?_); refine li_ 9 3 [] [] ?_; intro v1088 w5 ho6 hb hg_ hnew_; clear hg_ hnew_; (first | rw [← Ny1087.out] at ho6 | (simp only [Int.reduceToNat] at ho6; rw [← Ny1087.out] at ho6)); have HO1089 := Aside0.mk (Kd.R_lower ho6 (below_size (ne_ HB.out))); replace BK1086 := kb_ BK1086 hb; replace HB := kB_ HB hb; clear hb ho6))
  repeat (go_quiet (first | ((with_reducible refine gate_dst (N := 2) rfl ?_); refine bx_ 2 #[.int .i64 a0_0, .slice A0_1 l0_1.length c0_1] 29 ?_; intro gb1086 hg w4 hbox hb; have BK1086 := Aside0.mk (hbox); have GW1086 := Aside0.mk (zs_ hg (ne_ HB.out)); have GE1086 := Aside0.mk (zs_ hg (ne_ HB.out)); replace HB := kB_ HB hb; clear hb hbox hg) | ((with_reducible refine gate_dst (N := 9) rfl ?_); refine li_ 9 3 [] [] ?_; intro v1088 w5 ho6 hb hg_ hnew_; clear hg_ hnew_; (first | rw [← Ny1087.out] at ho6 | (simp only [Int.reduceToNat] at ho6; rw [← Ny1087.out] at ho6)); have HO1089 := Aside0.mk (Kd.R_lower ho6 (below_size (ne_ HB.out))); replace BK1086 := kb_ BK1086 hb; replace HB := kB_ HB hb; clear hb ho6)); go_upto_region 2 with (first | ((with_reducible refine gate_dst (N := 2) rfl ?_); refine bx_ 2 #[.int .i64 a0_0, .slice A0_1 l0_1.length c0_1] 29 ?_; intro gb1086 hg w4 hbox hb; have BK1086 := Aside0.mk (hbox); have GW1086 := Aside0.mk (zs_ hg (ne_ HB.out)); have GE1086 := Aside0.mk (zs_ hg (ne_ HB.out)); replace HB := kB_ HB hb; clear hb hbox hg) | ((with_reducible refine gate_dst (N := 9) rfl ?_); refine li_ 9 3 [] [] ?_; intro v1088 w5 ho6 hb hg_ hnew_; clear hg_ hnew_; (first | rw [← Ny1087.out] at ho6 | (simp only [Int.reduceToNat] at ho6; rw [← Ny1087.out] at ho6)); have HO1089 := Aside0.mk (Kd.R_lower ho6 (below_size (ne_ HB.out))); replace BK1086 := kb_ BK1086 hb; replace HB := kB_ HB hb; clear hb ho6)))
  (try simp only [Act.put, List.setIfInBounds_toArray, List.set_cons_zero, List.set_cons_succ])
  go_cut [18] (fun v18 wc => ∃ (kq : Nat) (x18_2 : Bool), v18 = .bool x18_2 ∧ Aside0 (spec_WalkPlain.j0 kq l1 y1087 x18_2 a0_0 l0_1 = some r) ∧ Aside0 (kq ≤ k) ∧ Aside0 (Kd.R (Kd.int .i64) 3 wc w.heap.size (fun _ => True) v1088 y1087) ∧ Aside0 (wc.heap[gb1086]? = some (.cells #[.int .i64 a0_0, (.slice A0_1 l0_1.length c0_1)] 29 (0, 0))) ∧ Aside0 (Below w.heap.size w wc))
  case first =>
   have H := HC3.out
   clear HC3
   replace H := Option.bind_eq_some_iff.mp H
   obtain ⟨t1090, A70, H⟩ := H
   try dsimp only at H
   have A7 := Aside0.mk A70
   clear A70
   by_cases c8 : t1090 = true
   rotate_left
   ·replace c8 := Bool.eq_false_iff.mpr c8
    subst c8
    have H1 : (spec_WalkPlain.j0 k l1 y1087 true a0_0 l0_1) = some r := by rw [if_neg (show ¬ (false = true) by decide)] at H; exact H
    clear H
    have H := H1
    clear H1
    have H' := Aside0.mk H
    clear H
    obtain ⟨hcz14_0, hcz14_1, hfz14_0, hfz14_1⟩ := cz2_ BK1086.out
    go_wp2_with (first | (go_at_call 60; (with_reducible refine (spec_l1Ok.calls k a0_0 _ _ l0_1 false _ ?side1 ?side2 A7.out).mono ?_); (case side1 => exact nc_ (Kd.C_below HR0_1.out HB.out)); (case side2 => exact HC0_1.out); rintro e w15 ⟨rfl, hb⟩; replace HO1089 := kR_ HO1089 hb; replace BK1086 := kb_ BK1086 hb; replace HB := kB_ HB hb; (try clear hb); (try clear hb2); (try clear hk); (try clear hi)))
    repeat (go_quiet (first | (go_at_call 60; (with_reducible refine (spec_l1Ok.calls k a0_0 _ _ l0_1 false _ ?side1 ?side2 A7.out).mono ?_); (case side1 => exact nc_ (Kd.C_below HR0_1.out HB.out)); (case side2 => exact HC0_1.out); rintro e w15 ⟨rfl, hb⟩; replace HO1089 := kR_ HO1089 hb; replace BK1086 := kb_ BK1086 hb; replace HB := kB_ HB hb; (try clear hb); (try clear hb2); (try clear hk); (try clear hi))); try go_wp2_with (first | (go_at_call 60; (with_reducible refine (spec_l1Ok.calls k a0_0 _ _ l0_1 false _ ?side1 ?side2 A7.out).mono ?_); (case side1 => exact nc_ (Kd.C_below HR0_1.out HB.out)); (case side2 => exact HC0_1.out); rintro e w15 ⟨rfl, hb⟩; replace HO1089 := kR_ HO1089 hb; replace BK1086 := kb_ BK1086 hb; replace HB := kB_ HB hb; (try clear hb); (try clear hb2); (try clear hk); (try clear hi))))
    go_meet
    case rel => exact ⟨_, (true), ns_, H', ⟨by first | omega | exact Nat.le_refl _⟩, ⟨nr_ HO1089.out⟩, ⟨nb_ BK1086.out⟩, ⟨ne_ HB.out⟩⟩
   subst c8
   rw [if_pos rfl] at H
   replace H := Option.bind_eq_some_iff.mp H
   obtain ⟨t1091, A90, H⟩ := H
   replace H : (spec_WalkPlain.j0 k l1 y1087 (!t1091) a0_0 l0_1) = some r := H
   have A9 := Aside0.mk A90
   clear A90
   have H' := Aside0.mk H
   clear H
   obtain ⟨hcz10_0, hcz10_1, hfz10_0, hfz10_1⟩ := cz2_ BK1086.out
   go_wp2_with (first | (go_at_call 60; (with_reducible refine (spec_l1Ok.calls k a0_0 _ _ l0_1 true _ ?side1 ?side2 A7.out).mono ?_); (case side1 => exact nc_ (Kd.C_below HR0_1.out HB.out)); (case side2 => exact HC0_1.out); rintro e w11 ⟨rfl, hb⟩; replace HO1089 := kR_ HO1089 hb; replace BK1086 := kb_ BK1086 hb; replace HB := kB_ HB hb; (try clear hb); (try clear hb2); (try clear hk); (try clear hi); obtain ⟨hcz12_0, hcz12_1, hfz12_0, hfz12_1⟩ := cz2_ BK1086.out) | (go_at_call 83; (with_reducible refine (spec_l2Ok.calls k a0_0 _ _ l0_1 _ _ l1 t1091 _ ?side1 ?side2 ?side3 ?side4 A9.out).mono ?_); (case side1 => exact nc_ (Kd.C_below HR0_1.out HB.out)); (case side2 => exact HC0_1.out); (case side3 => exact nc_ (Kd.C_below HR1.out HB.out)); (case side4 => exact HC1.out); rintro e w13 ⟨rfl, hb⟩; replace HO1089 := kR_ HO1089 hb; replace BK1086 := kb_ BK1086 hb; replace HB := kB_ HB hb; (try clear hb); (try clear hb2); (try clear hk); (try clear hi)))
   repeat (go_quiet (first | (go_at_call 60; (with_reducible refine (spec_l1Ok.calls k a0_0 _ _ l0_1 true _ ?side1 ?side2 A7.out).mono ?_); (case side1 => exact nc_ (Kd.C_below HR0_1.out HB.out)); (case side2 => exact HC0_1.out); rintro e w11 ⟨rfl, hb⟩; replace HO1089 := kR_ HO1089 hb; replace BK1086 := kb_ BK1086 hb; replace HB := kB_ HB hb; (try clear hb); (try clear hb2); (try clear hk); (try clear hi); obtain ⟨hcz12_0, hcz12_1, hfz12_0, hfz12_1⟩ := cz2_ BK1086.out) | (go_at_call 83; (with_reducible refine (spec_l2Ok.calls k a0_0 _ _ l0_1 _ _ l1 t1091 _ ?side1 ?side2 ?side3 ?side4 A9.out).mono ?_); (case side1 => exact nc_ (Kd.C_below HR0_1.out HB.out)); (case side2 => exact HC0_1.out); (case side3 => exact nc_ (Kd.C_below HR1.out HB.out)); (case side4 => exact HC1.out); rintro e w13 ⟨rfl, hb⟩; replace HO1089 := kR_ HO1089 hb; replace BK1086 := kb_ BK1086 hb; replace HB := kB_ HB hb; (try clear hb); (try clear hb2); (try clear hk); (try clear hi))); try go_wp2_with (first | (go_at_call 60; (with_reducible refine (spec_l1Ok.calls k a0_0 _ _ l0_1 true _ ?side1 ?side2 A7.out).mono ?_); (case side1 => exact nc_ (Kd.C_below HR0_1.out HB.out)); (case side2 => exact HC0_1.out); rintro e w11 ⟨rfl, hb⟩; replace HO1089 := kR_ HO1089 hb; replace BK1086 := kb_ BK1086 hb; replace HB := kB_ HB hb; (try clear hb); (try clear hb2); (try clear hk); (try clear hi); obtain ⟨hcz12_0, hcz12_1, hfz12_0, hfz12_1⟩ := cz2_ BK1086.out) | (go_at_call 83; (with_reducible refine (spec_l2Ok.calls k a0_0 _ _ l0_1 _ _ l1 t1091 _ ?side1 ?side2 ?side3 ?side4 A9.out).mono ?_); (case side1 => exact nc_ (Kd.C_below HR0_1.out HB.out)); (case side2 => exact HC0_1.out); (case side3 => exact nc_ (Kd.C_below HR1.out HB.out)); (case side4 => exact HC1.out); rintro e w13 ⟨rfl, hb⟩; replace HO1089 := kR_ HO1089 hb; replace BK1086 := kb_ BK1086 hb; replace HB := kB_ HB hb; (try clear hb); (try clear hb2); (try clear hk); (try clear hi))))
   go_meet
   case rel => exact ⟨_, (!t1091), ns_, H', ⟨by first | omega | exact Nat.le_refl _⟩, ⟨nr_ HO1089.out⟩, ⟨nb_ BK1086.out⟩, ⟨ne_ HB.out⟩⟩
  case rest =>
   clear HC3
   try clear c1
   obtain ⟨kq, x18_2, rfl, HA, HJ2, HO_5, BK1086, HB⟩ := hcut
   cases kq with
   | zero => exact absurd HA.out (by simp [spec_WalkPlain.j0])
   | succ kj2 =>
    have H := HA.out
    clear HA
    simp only [spec_WalkPlain.j0] at H
    by_cases c16 : x18_2 = true
    ·subst c16
     have H1 : (some ([] : List Int)) = some r := by rw [if_pos rfl] at H; exact H
     clear H
     have H := H1
     clear H1
     obtain rfl := Option.some.inj H
     go_wp2
     repeat (go_quiet (fail); try go_wp2)
     go_ret
     exact ⟨_, nw_, by first | exact Kd.R_nil _ _ _ _ _ | exact Kd.N_nil _ _ _ _ _ | exact Kd.V_nil _ _ _ _ _ | exact Kd.Q_nil _ _ _ _ _ | exact Kd.S_nil _ _ _ _ _, ne_ HB.out⟩
    replace c16 := Bool.eq_false_iff.mpr c16
    subst c16
    have H1 : (spec_WalkPlain.l0 kj2 l1 y1087 0 a0_0 l0_1) = some r := by rw [if_neg (show ¬ (false = true) by decide)] at H; exact H
    clear H
    have H := H1
    clear H1
    have H' := Aside0.mk H
    clear H
    go_wp2
    repeat (go_quiet (fail); try go_wp2)
    go_loopg [5, 6] kj2 (fun kq v5 v6 w' => ∃ (x5_2 : List Int) (x6_2 : Int), v6 = .int .i64 x6_2 ∧ Aside0 (spec_WalkPlain.l0 kq l1 x5_2 x6_2 a0_0 l0_1 = some r) ∧ Aside0 (kq ≤ kj2) ∧ Aside0 (Kd.R (Kd.int .i64) 3 w' w.heap.size (fun _ => True) v5 x5_2) ∧ Aside0 (w'.heap[gb1086]? = some (.cells #[.int .i64 a0_0, (.slice A0_1 l0_1.length c0_1)] 29 (0, 0))) ∧ Aside0 (Below w.heap.size w w'))
    case atStart => exact ⟨(y1087), (0), ns_, H', ⟨Nat.le_refl _⟩, ⟨nr_ HO_5.out⟩, ⟨nb_ BK1086.out⟩, ⟨ne_ HB.out⟩⟩
    case round =>
     clear H'
     try clear c1
     try clear c16
     obtain ⟨x5_2, x6_2, rfl, HA, HK2, HO_5, BK1086, HB⟩ := hrel
     cases gk with
     | zero => exact absurd HA.out (by simp [spec_WalkPlain.l0])
     | succ k2 =>
      have H := HA.out
      clear HA
      simp only [spec_WalkPlain.l0] at H
      by_cases c17 : x6_2 < (l1.length : Int)
      rotate_left
      ·rw [if_neg c17] at H
       have c17b0 : decide (x6_2 < (l1.length : Int)) = false := decide_eq_false c17
       clear c17
       obtain rfl := Option.some.inj H
       go_wp2
       repeat (go_quiet (fail); try go_wp2)
       go_ret
       exact ⟨_, nw_, nr_ HO_5.out, ne_ HB.out⟩

      rw [if_pos c17] at H
      have c17b0 : decide (x6_2 < (l1.length : Int)) = true := decide_eq_true c17
      clear c17
      by_cases c18 : 0 ≤ x6_2
      rotate_left
      ·rw [if_neg c18] at H
       exact absurd H (by simp)
      rw [if_pos c18] at H
      have c18b0 : decide (0 ≤ x6_2) = true := decide_eq_true c18
      clear c18
      by_cases c19 : 0 ≤ (rd l1 x6_2)
      rotate_left
      ·rw [if_neg c19] at H
       exact absurd H (by simp)
      rw [if_pos c19] at H
      have c19b0 : decide (0 ≤ (rd l1 x6_2)) = true := decide_eq_true c19
      clear c19
      by_cases c20 : (rd l1 x6_2) < (l0_1.length : Int)
      rotate_left
      ·rw [if_neg c20] at H
       exact absurd H (by simp)
      rw [if_pos c20] at H
      have c20b0 : decide ((rd l1 x6_2) < (l0_1.length : Int)) = true := decide_eq_true c20
      clear c20
      have H' := Aside0.mk H
      clear H
      obtain ⟨hcz21_0, hcz21_1, hfz21_0, hfz21_1⟩ := cz2_ BK1086.out
      have p1092 : 0 ≤ (x6_2 : Int) := of_decide_eq_true nx_
      have q1092 : x6_2 < (l1.length : Int) := of_decide_eq_true nx_
      obtain ⟨ad1092, e1092, hx1092_0⟩ := Kd.at_int HR1.out x6_2 p1092 q1092
      cases e1092
      replace hx1092_0 := hb_ HB.out hx1092_0
      replace p1092 := eq_true p1092
      replace q1092 := eq_true q1092
      have p1093 : 0 ≤ ((rd l1 x6_2) : Int) := of_decide_eq_true nx_
      have q1093 : (rd l1 x6_2) < (l0_1.length : Int) := of_decide_eq_true nx_
      obtain ⟨ad1093, e1093, hx1093_0, hx1093_1, hx1093_2, hx1093_3, hx1093_4⟩ := at_T37 HR0_1.out (rd l1 x6_2) p1093 q1093
      cases e1093
      replace hx1093_0 := hb_ HB.out hx1093_0
      replace hx1093_1 := hb_ HB.out hx1093_1
      replace hx1093_2 := hb_ HB.out hx1093_2
      replace hx1093_3 := hb_ HB.out hx1093_3
      replace hx1093_4 := hb_ HB.out hx1093_4
      replace p1093 := eq_true p1093
      replace q1093 := eq_true q1093
      go_wp2
      repeat (go_quiet (fail); try go_wp2)
      go_loopg [6, 8] k2 (fun kq v6 v8 w' => ∃ (x6_3 : Int) (x8_3 : Int), v6 = .int .i64 x6_3 ∧ v8 = .int .i64 x8_3 ∧ Aside0 (spec_WalkPlain.l1 kq l1 x5_2 x6_3 ((rd_T37 l0_1 (rd l1 x6_2)).f0) x8_3 a0_0 l0_1 = some r) ∧ Aside0 (kq ≤ k2) ∧ Aside0 (Kd.R (Kd.int .i64) 3 w' w.heap.size (fun _ => True) u5 x5_2) ∧ Aside0 (w'.heap[gb1086]? = some (.cells #[.int .i64 a0_0, (.slice (some ad1093) l0_1.length c0_1)] 29 (0, 0))) ∧ Aside0 (Below w.heap.size w w'))
      case atStart => exact ⟨(x6_2), (x6_2), ns_, ns_, H', ⟨Nat.le_refl _⟩, ⟨nr_ HO_5.out⟩, ⟨nb_ BK1086.out⟩, ⟨ne_ HB.out⟩⟩
      case round =>
       clear H'
       try clear c1
       try clear c16
       try clear c17
       try clear c17b0
       try clear c18
       try clear c18b0
       try clear c19
       try clear c19b0
       try clear c20
       try clear c20b0
       try clear hcz21_0
       try clear hcz21_1
       try clear hfz21_0
       try clear hfz21_1
       try clear hx1092_0
       try clear hx1093_0
       try clear hx1093_1
       try clear hx1093_2
       try clear hx1093_3
       try clear hx1093_4
       try clear p1092
       try clear p1093
       try clear q1092
       try clear q1093
       obtain ⟨x6_3, x8_3, rfl, rfl, HA, HK3, HO_5, BK1086, HB⟩ := hrel
       cases gk with
       | zero => exact absurd HA.out (by simp [spec_WalkPlain.l1])
       | succ k3 =>
        have H := HA.out
        clear HA
        simp only [spec_WalkPlain.l1] at H
        by_cases c22 : x8_3 < (l1.length : Int)
        ·rw [if_pos c22] at H
         have c22b0 : decide (x8_3 < (l1.length : Int)) = true := decide_eq_true c22
         clear c22
         by_cases c23 : 0 ≤ x8_3
         rotate_left
         ·rw [if_neg c23] at H
          exact absurd H (by simp)
         rw [if_pos c23] at H
         have c23b0 : decide (0 ≤ x8_3) = true := decide_eq_true c23
         clear c23
         by_cases c24 : 0 ≤ (rd l1 x8_3)
         rotate_left
         ·rw [if_neg c24] at H
          exact absurd H (by simp)
         rw [if_pos c24] at H
         have c24b0 : decide (0 ≤ (rd l1 x8_3)) = true := decide_eq_true c24
         clear c24
         by_cases c25 : (rd l1 x8_3) < (l0_1.length : Int)
         rotate_left
         ·rw [if_neg c25] at H
          exact absurd H (by simp)
         rw [if_pos c25] at H
         have c25b0 : decide ((rd l1 x8_3) < (l0_1.length : Int)) = true := decide_eq_true c25
         clear c25
         by_cases c26 : ((rd_T37 l0_1 (rd l1 x8_3)).f1) = ((rd_T37 l0_1 (rd l1 x6_2)).f0)
         rotate_left
         ·rw [if_neg c26] at H
          have c26b0 : (((rd_T37 l0_1 (rd l1 x8_3)).f1) == ((rd_T37 l0_1 (rd l1 x6_2)).f0)) = false := beq_eq_false_iff_ne.mpr c26
          have c26b1 : (((rd_T37 l0_1 (rd l1 x8_3)).f1) != ((rd_T37 l0_1 (rd l1 x6_2)).f0)) = true := bne_iff_ne.mpr c26
          have H' := Aside0.mk H
          clear H
          obtain ⟨hcz28_0, hcz28_1, hfz28_0, hfz28_1⟩ := cz2_ BK1086.out
          have p1094 : 0 ≤ (x8_3 : Int) := of_decide_eq_true nx_
          have q1094 : x8_3 < (l1.length : Int) := of_decide_eq_true nx_
          obtain ⟨ad1094, e1094, hx1094_0⟩ := Kd.at_int HR1.out x8_3 p1094 q1094
          obtain rfl : ad1092 = ad1094 := (by injection e1094)
          replace hx1094_0 := hb_ HB.out hx1094_0
          replace p1094 := eq_true p1094
          replace q1094 := eq_true q1094
          have p1095 : 0 ≤ ((rd l1 x8_3) : Int) := of_decide_eq_true nx_
          have q1095 : (rd l1 x8_3) < (l0_1.length : Int) := of_decide_eq_true nx_
          obtain ⟨ad1095, e1095, hx1095_0, hx1095_1, hx1095_2, hx1095_3, hx1095_4⟩ := at_T37 HR0_1.out (rd l1 x8_3) p1095 q1095
          obtain rfl : ad1093 = ad1095 := (by injection e1095)
          replace hx1095_0 := hb_ HB.out hx1095_0
          replace hx1095_1 := hb_ HB.out hx1095_1
          replace hx1095_2 := hb_ HB.out hx1095_2
          replace hx1095_3 := hb_ HB.out hx1095_3
          replace hx1095_4 := hb_ HB.out hx1095_4
          replace p1095 := eq_true p1095
          replace q1095 := eq_true q1095
          go_wp2
          repeat (go_quiet (fail); try go_wp2)
          go_roundg k3
          case measure => have := HJ2.out; have := HK2.out; have := HK3.out; omega
          case rel => exact ⟨(x6_3), (wrap64 (x8_3 + 1)), ns_, ns_, H', ⟨by have := HJ2.out; have := HK2.out; have := HK3.out; omega⟩, ⟨nr_ HO_5.out⟩, ⟨nb_ BK1086.out⟩, ⟨ne_ HB.out⟩⟩
         rw [if_pos c26] at H
         have c26b0 : (((rd_T37 l0_1 (rd l1 x8_3)).f1) == ((rd_T37 l0_1 (rd l1 x6_2)).f0)) = true := beq_iff_eq.mpr c26
         have c26b1 : (((rd_T37 l0_1 (rd l1 x8_3)).f1) != ((rd_T37 l0_1 (rd l1 x6_2)).f0)) = false := bne_eq_false_iff_eq.mpr c26
         clear c26
         have H' := Aside0.mk H
         clear H
         obtain ⟨hcz27_0, hcz27_1, hfz27_0, hfz27_1⟩ := cz2_ BK1086.out
         have p1094 : 0 ≤ (x8_3 : Int) := of_decide_eq_true nx_
         have q1094 : x8_3 < (l1.length : Int) := of_decide_eq_true nx_
         obtain ⟨ad1094, e1094, hx1094_0⟩ := Kd.at_int HR1.out x8_3 p1094 q1094
         obtain rfl : ad1092 = ad1094 := (by injection e1094)
         replace hx1094_0 := hb_ HB.out hx1094_0
         replace p1094 := eq_true p1094
         replace q1094 := eq_true q1094
         have p1095 : 0 ≤ ((rd l1 x8_3) : Int) := of_decide_eq_true nx_
         have q1095 : (rd l1 x8_3) < (l0_1.length : Int) := of_decide_eq_true nx_
         obtain ⟨ad1095, e1095, hx1095_0, hx1095_1, hx1095_2, hx1095_3, hx1095_4⟩ := at_T37 HR0_1.out (rd l1 x8_3) p1095 q1095
         obtain rfl : ad1093 = ad1095 := (by injection e1095)
         replace hx1095_0 := hb_ HB.out hx1095_0
         replace hx1095_1 := hb_ HB.out hx1095_1
         replace hx1095_2 := hb_ HB.out hx1095_2
         replace hx1095_3 := hb_ HB.out hx1095_3
         replace hx1095_4 := hb_ HB.out hx1095_4
         replace p1095 := eq_true p1095
         replace q1095 := eq_true q1095
         go_wp2
         repeat (go_quiet (fail); try go_wp2)
         go_roundg k3
         case measure => have := HJ2.out; have := HK2.out; have := HK3.out; omega
         case rel => exact ⟨(wrap64 (x8_3 + 1)), (wrap64 (x8_3 + 1)), ns_, ns_, H', ⟨by have := HJ2.out; have := HK2.out; have := HK3.out; omega⟩, ⟨nr_ HO_5.out⟩, ⟨nb_ BK1086.out⟩, ⟨ne_ HB.out⟩⟩
        rw [if_neg c22] at H
        have c22b0 : decide (x8_3 < (l1.length : Int)) = false := decide_eq_false c22
        clear c22
        by_cases c29 : x6_3 < (l1.length : Int)
        rotate_left
        ·rw [if_neg c29] at H
         have c29b0 : decide (x6_3 < (l1.length : Int)) = false := decide_eq_false c29
         clear c29
         have H' := Aside0.mk H
         clear H
         go_wp2
         repeat (go_quiet (fail); try go_wp2)
         go_roundg k3
         case measure => have := HJ2.out; have := HK2.out; have := HK3.out; omega
         case rel => exact ⟨(x5_2), (wrap64 (x6_3 + 1)), ns_, H', ⟨by have := HJ2.out; have := HK2.out; have := HK3.out; omega⟩, ⟨nr_ HO_5.out⟩, ⟨nb_ BK1086.out⟩, ⟨ne_ HB.out⟩⟩
        rw [if_pos c29] at H
        have c29b0 : decide (x6_3 < (l1.length : Int)) = true := decide_eq_true c29
        clear c29
        by_cases c30 : 0 ≤ x6_3
        rotate_left
        ·rw [if_neg c30] at H
         exact absurd H (by simp)
        rw [if_pos c30] at H
        have c30b0 : decide (0 ≤ x6_3) = true := decide_eq_true c30
        clear c30
        by_cases c31 : x5_2.length < 17592186044416
        rotate_left
        ·rw [if_neg c31] at H
         exact absurd H (by simp)
        rw [if_pos c31] at H
        have LMc31 := Aside0.mk c31
        clear c31
        obtain ⟨y1097, hy1097⟩ : ∃ y_ : List Int, y_ = (x5_2 ++ [rd l1 x6_3]) := ⟨_, rfl⟩
        replace H : (spec_WalkPlain.l0 k3 l1 y1097 (wrap64 (x6_3 + 1)) a0_0 l0_1) = some r := by first | (rw [hy1097]; with_reducible exact H) | (have H2_ := (Option.bind_some _ _).symm.trans H; rw [hy1097]; with_reducible exact H2_) | (have H2_ := (Option.bind_some _ _).symm.trans H; with_reducible exact H2_) | with_reducible exact H | (rw [hy1097]; exact H) | exact H
        have Ny1097 := Aside0.mk hy1097
        clear hy1097
        have H' := Aside0.mk H
        clear H
        have p1096 : 0 ≤ (x6_3 : Int) := of_decide_eq_true nx_
        have q1096 : x6_3 < (l1.length : Int) := of_decide_eq_true nx_
        obtain ⟨ad1096, e1096, hx1096_0⟩ := Kd.at_int HR1.out x6_3 p1096 q1096
        obtain rfl : ad1092 = ad1096 := (by injection e1096)
        replace hx1096_0 := hb_ HB.out hx1096_0
        replace p1096 := eq_true p1096
        replace q1096 := eq_true q1096
        go_wp2_with (first | ((with_reducible refine gate_builtin (b := .append) (xs := #[.tmp 58, .tmp 63]) rfl ?_); at_builtin; refine Kd.R_append (Kd.int .i64) (w0 := w) w.heap.size rfl (.tmp 58) (.tmp 63) 41 3 (.int .i64 0) 8 rfl Try.underlying41 info3 rfl (by decide) (by omega) u5 x5_2 (rd l1 x6_3) [.int .i64 (rd l1 x6_3)] (fun _ => True) (fun _ => False) rfl rfl ?aP (fun _ hk => hk.elim) ?aF ?aO ?aB ?aS ?aL ?_; (case aP => exact rfl); (case aB => exact (ne_ HB.out)); (case aF => exact (fun _ _ => trivial)); (case aO => exact (nr_ HO_5.out)); (case aS => exact (below_size (ne_ HB.out))); (case aL => have := LMc31.out; omega); intro v1098 w32 ho hb hg hat; rw [← Ny1097.out] at ho; have HO1099 := Aside0.mk (ho); replace BK1086 := Aside0.mk (blk_grown (g := gb1086) (o := .cells #[.int .i64 a0_0, .slice (some ad1093) l0_1.length c0_1] 29 (0, 0)) (nb_ BK1086.out) hg (Kd.R_ne HO_5.out BK1086.out (by decide))); replace HB := Aside0.mk (hb); clear HO_5; clear ho hb hg hat))
        repeat (go_quiet (first | ((with_reducible refine gate_builtin (b := .append) (xs := #[.tmp 58, .tmp 63]) rfl ?_); at_builtin; refine Kd.R_append (Kd.int .i64) (w0 := w) w.heap.size rfl (.tmp 58) (.tmp 63) 41 3 (.int .i64 0) 8 rfl Try.underlying41 info3 rfl (by decide) (by omega) u5 x5_2 (rd l1 x6_3) [.int .i64 (rd l1 x6_3)] (fun _ => True) (fun _ => False) rfl rfl ?aP (fun _ hk => hk.elim) ?aF ?aO ?aB ?aS ?aL ?_; (case aP => exact rfl); (case aB => exact (ne_ HB.out)); (case aF => exact (fun _ _ => trivial)); (case aO => exact (nr_ HO_5.out)); (case aS => exact (below_size (ne_ HB.out))); (case aL => have := LMc31.out; omega); intro v1098 w32 ho hb hg hat; rw [← Ny1097.out] at ho; have HO1099 := Aside0.mk (ho); replace BK1086 := Aside0.mk (blk_grown (g := gb1086) (o := .cells #[.int .i64 a0_0, .slice (some ad1093) l0_1.length c0_1] 29 (0, 0)) (nb_ BK1086.out) hg (Kd.R_ne HO_5.out BK1086.out (by decide))); replace HB := Aside0.mk (hb); clear HO_5; clear ho hb hg hat)); try go_wp2_with (first | ((with_reducible refine gate_builtin (b := .append) (xs := #[.tmp 58, .tmp 63]) rfl ?_); at_builtin; refine Kd.R_append (Kd.int .i64) (w0 := w) w.heap.size rfl (.tmp 58) (.tmp 63) 41 3 (.int .i64 0) 8 rfl Try.underlying41 info3 rfl (by decide) (by omega) u5 x5_2 (rd l1 x6_3) [.int .i64 (rd l1 x6_3)] (fun _ => True) (fun _ => False) rfl rfl ?aP (fun _ hk => hk.elim) ?aF ?aO ?aB ?aS ?aL ?_; (case aP => exact rfl); (case aB => exact (ne_ HB.out)); (case aF => exact (fun _ _ => trivial)); (case aO => exact (nr_ HO_5.out)); (case aS => exact (below_size (ne_ HB.out))); (case aL => have := LMc31.out; omega); intro v1098 w32 ho hb hg hat; rw [← Ny1097.out] at ho; have HO1099 := Aside0.mk (ho); replace BK1086 := Aside0.mk (blk_grown (g := gb1086) (o := .cells #[.int .i64 a0_0, .slice (some ad1093) l0_1.length c0_1] 29 (0, 0)) (nb_ BK1086.out) hg (Kd.R_ne HO_5.out BK1086.out (by decide))); replace HB := Aside0.mk (hb); clear HO_5; clear ho hb hg hat)))
        go_roundg k3
        case measure => have := HJ2.out; have := HK2.out; have := HK3.out; omega
        case rel => exact ⟨(y1097), (wrap64 (x6_3 + 1)), ns_, H', ⟨by have := HJ2.out; have := HK2.out; have := HK3.out; omega⟩, ⟨nr_ HO1099.out⟩, ⟨nb_ BK1086.out⟩, ⟨ne_ HB.out⟩⟩
end Go.Proofs.Ytpjmkghmjpbldaa.Print
