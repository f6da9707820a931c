-- Made by this session's own program (wip/patch_print.py, over the kit's print). Lean checks it.
import Derived.Test.YtfpfaaibgaejjaaPrint0
import Derived.Test.YtfpfaaibgaejjaaPrintB
import Derived.Test.YtfpfaaibgaejjaaPrintF23
import Derived.Test.YtfpfaaibgaejjaaPrintF40
namespace Go.Proofs.Ytfpfaaibgaejjaa.Print
open Go.RowKit Go.Proofs.YtfpfaaibgaejjaaW.PrintWords Go.Proofs.YtfpfaaibgaejjaaW.PrintLast Go.Proofs.YtfpfaaibgaejjaaW.PrintMore Go.Proofs.YtfpfaaibgaejjaaX
attribute [local go_sem] max2_int min2_int max_two min_two max_three min_three max_four min_four   -- for this text's walks alone
set_option linter.unusedVariables false
set_option linter.unusedSimpArgs false

/-! ### impl_StairLink: function 25 -/
mutual
def impl_StairLink.j0 : Nat → List (S36) → List (S36) → Bool → Option ((List (S36)))
  | 0, _, _, _ => none
  | k + 1, x0, x1, x16 => if x16 = true then (some ([] : List (S36))) else (impl_StairLink.l0 k x1 (([] : List (S36))) x0 (x0.length : Int) 0)
def impl_StairLink.l0 : Nat → List (S36) → List (S36) → List (S36) → Int → Int → Option ((List (S36)))
  | 0, _, _, _, _, _ => none
  | k + 1, x1, x5, x18, x19, x20 => if x20 < x19 then (if 0 ≤ x20 then (if x20 < (x18.length : Int) then ((impl_arrival.f k x1 ((rd_T36 x18 x20).f1)).bind fun t389 => (if t389 = 99999 then (impl_StairLink.l0 k x1 x5 x18 x19 (wrap64 (x20 + 1))) else (if x5.length < 8796093022208 then (impl_StairLink.l0 k x1 (x5 ++ [(⟨(rd_T36 x18 x20).f0, t389⟩ : S36)]) x18 x19 (wrap64 (x20 + 1))) else (none)))) else (none)) else (none)) else ((impl_profile.f k x5).bind fun t393 => (some t393))
end
def impl_StairLink.f (k : Nat) (l0 : List (S36)) (l1 : List (S36)) : Option ((List (S36))) := (impl_StairOk.f k l0).bind fun t382 => (if t382 = true then ((impl_StairOk.f k l1).bind fun t383 => (impl_StairLink.j0 k l0 l1 (!t383))) else (impl_StairLink.j0 k l0 l1 true))
theorem impl_StairLink.mono_l : ∀ k, (∀ y0 y1 y2, LeO (impl_StairLink.j0 k y0 y1 y2) (impl_StairLink.j0 (k + 1) y0 y1 y2)) ∧ (∀ y0 y1 y2 y3 y4, LeO (impl_StairLink.l0 k y0 y1 y2 y3 y4) (impl_StairLink.l0 (k + 1) y0 y1 y2 y3 y4))
  | 0 => ⟨fun _ _ _ r h => by simp [impl_StairLink.j0] at h, fun _ _ _ _ _ r h => by simp [impl_StairLink.l0] at h⟩
  | k + 1 => by
    obtain ⟨ih0, ih1⟩ := impl_StairLink.mono_l k
    refine ⟨?_, ?_⟩
    · intro y0 y1 y2
      unfold impl_StairLink.j0
      repeat' first | (with_reducible first | exact ih0 _ _ _ | exact ih1 _ _ _ _ _ | exact impl_StairOk.mono _ _ | exact impl_arrival.mono _ _ _ | exact impl_profile.mono _ _ | exact LeO.refl _ | exact LeO.none _ | refine LeO.ite ?_ ?_ | refine LeO.bind ?_ (fun _ => ?_)) | exact ih0 _ _ _ | exact ih1 _ _ _ _ _ | exact impl_StairOk.mono _ _ | exact impl_arrival.mono _ _ _ | exact impl_profile.mono _ _ | exact LeO.none _ | refine LeO.ite ?_ ?_ | refine LeO.bind ?_ (fun _ => ?_)
    · intro y0 y1 y2 y3 y4
      unfold impl_StairLink.l0
      repeat' first | (with_reducible first | exact ih0 _ _ _ | exact ih1 _ _ _ _ _ | exact impl_StairOk.mono _ _ | exact impl_arrival.mono _ _ _ | exact impl_profile.mono _ _ | exact LeO.refl _ | exact LeO.none _ | refine LeO.ite ?_ ?_ | refine LeO.bind ?_ (fun _ => ?_)) | exact ih0 _ _ _ | exact ih1 _ _ _ _ _ | exact impl_StairOk.mono _ _ | exact impl_arrival.mono _ _ _ | exact impl_profile.mono _ _ | exact LeO.none _ | refine LeO.ite ?_ ?_ | refine LeO.bind ?_ (fun _ => ?_)
theorem impl_StairLink.mono : ∀ a0 a1 k, LeO (impl_StairLink.f k a0 a1) (impl_StairLink.f (k + 1) a0 a1) := by
  intro a0 a1 k
  obtain ⟨ih0, ih1⟩ := impl_StairLink.mono_l k
  unfold impl_StairLink.f
  repeat' first | (with_reducible first | exact ih0 _ _ _ | exact ih1 _ _ _ _ _ | exact impl_StairOk.mono _ _ | exact impl_arrival.mono _ _ _ | exact impl_profile.mono _ _ | exact LeO.refl _ | exact LeO.none _ | refine LeO.ite ?_ ?_ | refine LeO.bind ?_ (fun _ => ?_)) | exact ih0 _ _ _ | exact ih1 _ _ _ _ _ | exact impl_StairOk.mono _ _ | exact impl_arrival.mono _ _ _ | exact impl_profile.mono _ _ | exact LeO.none _ | refine LeO.ite ?_ ?_ | refine LeO.bind ?_ (fun _ => ?_)
set_option maxHeartbeats 200000000 in
set_option maxRecDepth 100000 in
theorem impl_StairLink.calls (k : Nat) (A0 : Option Addr) (c0 : Nat) (l0 : List (S36)) (A1 : Option Addr) (c1 : Nat) (l1 : List (S36)) (r : List (S36)) (w : World) (hr0 : Kd.C k36 w A0 l0.length l0) (hc0 : l0.length ≤ c0) (hr1 : Kd.C k36 w A1 l1.length l1) (hc1 : l1.length ≤ c1) (h : impl_StairLink.f k l0 l1 = some r) :
    Calls Try.prog 25 #[.slice A0 l0.length c0, .slice A1 l1.length c1] w fun e w' => ∃ v0_ : Value, e = .returned (v0_) ∧ Kd.R k36 36 w' w.heap.size (fun _ => True) v0_ r ∧ Below w.heap.size w w' := by
  have hu36 := Try.underlying36
  have HR0 := Aside0.mk hr0
  have HC0 := Aside0.mk hc0
  clear hr0 hc0
  have HR1 := Aside0.mk hr1
  have HC1 := Aside0.mk hc1
  clear hr1 hc1
  have HB := Aside0.mk (Below.refl w.heap.size w)
  have H : ((impl_StairOk.f k l0).bind fun t382 => (if t382 = true then ((impl_StairOk.f k l1).bind fun t383 => (impl_StairLink.j0 k l0 l1 (!t383))) else (impl_StairLink.j0 k l0 l1 true))) = some r := h
  clear h
  have HC3 := Aside0.mk H
  clear H
  go_enter Try.func25, Try.ntmps25
  go_upto_region 1 with (fail)
  go_cut [16] (fun v16 wc => ∃ (kq : Nat) (x16_2 : Bool), v16 = .bool x16_2 ∧ Aside0 (impl_StairLink.j0 kq l0 l1 x16_2 = some r) ∧ Aside0 (kq ≤ k) ∧ Aside0 (Below w.heap.size w wc))
  case first =>
   have H := HC3.out
   clear HC3
   replace H := Option.bind_eq_some_iff.mp H
   obtain ⟨t382, A40, H⟩ := H
   try dsimp only at H
   have A4 := Aside0.mk A40
   clear A40
   by_cases c5 : t382 = true
   rotate_left
   ·replace c5 := Bool.eq_false_iff.mpr c5
    subst c5
    have H1 : (impl_StairLink.j0 k l0 l1 true) = some r := by rw [if_neg (show ¬ (false = true) by decide)] at H; exact H
    clear H
    have H := H1
    clear H1
    have H' := Aside0.mk H
    clear H
    go_wp2_with (first | ((with_reducible refine gate_callee (f := 23) rfl ?_); refine gl_ (some 10) Try.func23 #[.slice A0 l0.length c0] ?_; (with_reducible refine (impl_StairOk.calls k _ _ l0 false _ ?side1 ?side2 A4.out).mono ?_); (case side1 => exact nc_ (Kd.C_below HR0.out HB.out)); (case side2 => exact HC0.out); rintro e w9 ⟨rfl, hb⟩; refine ⟨_, rfl, ?_⟩; replace HB := kB_ HB hb; (try clear hb); (try clear hb2); (try clear hk); (try clear hi)))
    go_meet
    case rel => exact ⟨_, (true), ns_, H', ⟨by first | omega | exact Nat.le_refl _⟩, ⟨ne_ HB.out⟩⟩
   subst c5
   rw [if_pos rfl] at H
   replace H := Option.bind_eq_some_iff.mp H
   obtain ⟨t383, A60, H⟩ := H
   replace H : (impl_StairLink.j0 k l0 l1 (!t383)) = some r := H
   have A6 := Aside0.mk A60
   clear A60
   have H' := Aside0.mk H
   clear H
   go_wp2_with (first | ((with_reducible refine gate_callee (f := 23) rfl ?_); refine gl_ (some 10) Try.func23 #[.slice A0 l0.length c0] ?_; (with_reducible refine (impl_StairOk.calls k _ _ l0 true _ ?side1 ?side2 A4.out).mono ?_); (case side1 => exact nc_ (Kd.C_below HR0.out HB.out)); (case side2 => exact HC0.out); rintro e w7 ⟨rfl, hb⟩; refine ⟨_, rfl, ?_⟩; replace HB := kB_ HB hb; (try clear hb); (try clear hb2); (try clear hk); (try clear hi)) | (go_at_call 23; (with_reducible refine (impl_StairOk.calls k _ _ l1 t383 _ ?side1 ?side2 A6.out).mono ?_); (case side1 => exact nc_ (Kd.C_below HR1.out HB.out)); (case side2 => exact HC1.out); rintro e w8 ⟨rfl, hb⟩; replace HB := kB_ HB hb; (try clear hb); (try clear hb2); (try clear hk); (try clear hi)))
   go_meet
   case rel => exact ⟨_, (!t383), ns_, H', ⟨by first | omega | exact Nat.le_refl _⟩, ⟨ne_ HB.out⟩⟩
  case rest =>
   clear HC3
   try clear c1
   obtain ⟨kq, x16_2, rfl, HA, HJ2, HB⟩ := hcut
   cases kq with
   | zero => exact absurd HA.out (by simp [impl_StairLink.j0])
   | succ kj2 =>
    have H := HA.out
    clear HA
    simp only [impl_StairLink.j0] at H
    by_cases c10 : x16_2 = true
    ·subst c10
     have H1 : (some ([] : List (S36))) = some r := by rw [if_pos rfl] at H; exact H
     clear H
     have H := H1
     clear H1
     obtain rfl := Option.some.inj H
     go_wp2
     go_ret
     exact ⟨_, nw_, by first | exact Kd.R_nil _ _ _ _ _ | exact Kd.N_nil _ _ _ _ _ | exact Kd.V_nil _ _ _ _ _ | exact Kd.Q_nil _ _ _ _ _ | exact Kd.S_nil _ _ _ _ _, ne_ HB.out⟩
    replace c10 := Bool.eq_false_iff.mpr c10
    subst c10
    have H1 : (impl_StairLink.l0 kj2 l1 (([] : List (S36))) l0 (l0.length : Int) 0) = some r := by rw [if_neg (show ¬ (false = true) by decide)] at H; exact H
    clear H
    have H := H1
    clear H1
    obtain ⟨y384, hy384⟩ : ∃ y_ : List (S36), y_ = (([] : List (S36))) := ⟨_, rfl⟩
    replace H : (impl_StairLink.l0 kj2 l1 y384 l0 (l0.length : Int) 0) = some r := by first | (rw [hy384]; with_reducible exact H) | (have H2_ := (Option.bind_some _ _).symm.trans H; rw [hy384]; with_reducible exact H2_) | (have H2_ := (Option.bind_some _ _).symm.trans H; with_reducible exact H2_) | with_reducible exact H | (rw [hy384]; exact H) | exact H
    have Ny384 := Aside0.mk hy384
    clear hy384
    have H' := Aside0.mk H
    clear H
    go_wp2_with (first | ((with_reducible refine gate_dst (N := 17) rfl ?_); refine Kd.R_lit k36 _ 36 ?hg (N := 17) ?hd (xs := ([] : List (S36))) (inner := []) (ok := fun _ => True) (okp := fun _ => True) ?hr ?hp (fun _ hk => hk) trivial (Below.refl _ _) (Nat.le_refl _) (by simp) ?_; (case hd => rfl); (case hg => rfl); (case hr => first | (go_simp; done) | (go_simp; rfl)); (case hp => exact (Reps.none _ _)); intro v385 w11 ho12 hb hg_ hnew_; clear hg_ hnew_; (first | rw [← Ny384.out] at ho12 | (simp only [Int.reduceToNat] at ho12; rw [← Ny384.out] at ho12)); have HO386 := Aside0.mk (Kd.R_lower ho12 (below_size (ne_ HB.out))); replace HB := kB_ HB hb; clear hb ho12))
    go_loopg [5, 20] kj2 (fun kq v5 v20 w' => ∃ (x5_2 : List (S36)) (x20_2 : Int), v20 = .int .i64 x20_2 ∧ Aside0 (impl_StairLink.l0 kq l1 x5_2 l0 (l0.length : Int) x20_2 = some r) ∧ Aside0 (kq ≤ kj2) ∧ Aside0 (Kd.R k36 36 w' w.heap.size (fun _ => True) v5 x5_2) ∧ Aside0 (Below w.heap.size w w'))
    case atStart => exact ⟨(y384), (0), ns_, H', ⟨Nat.le_refl _⟩, ⟨nr_ HO386.out⟩, ⟨ne_ HB.out⟩⟩
    case round =>
     clear H'
     try clear c1
     try clear c10
     obtain ⟨x5_2, x20_2, rfl, HA, HK2, HO_5, HB⟩ := hrel
     cases gk with
     | zero => exact absurd HA.out (by simp [impl_StairLink.l0])
     | succ k2 =>
      have H := HA.out
      clear HA
      simp only [impl_StairLink.l0] at H
      by_cases c13 : x20_2 < (l0.length : Int)
      rotate_left
      ·rw [if_neg c13] at H
       have c13b0 : decide (x20_2 < (l0.length : Int)) = false := decide_eq_false c13
       clear c13
       replace H := Option.bind_eq_some_iff.mp H
       obtain ⟨t393, A270, H⟩ := H
       replace H : (some t393) = some r := H
       have A27 := Aside0.mk A270
       clear A270
       obtain rfl := Option.some.inj H
       obtain ⟨Ao28, co28, eo28⟩ := Kd.R_slice HO_5.out
       subst eo28
       go_wp2_with (first | ((with_reducible refine gate_callee (f := 40) rfl ?_); refine gl_ (some 39) Try.func40 #[.slice Ao28 x5_2.length co28] ?_; (with_reducible refine (impl_profile.calls k2 _ _ x5_2 t393 _ ?side1 ?side2 A27.out).mono ?_); (case side1 => exact nc_ (Kd.R_reads' HO_5.out).2.2); (case side2 => exact (Kd.R_reads' HO_5.out).2.1); rintro e w29 ⟨v394, rfl, ho0, hb⟩; refine ⟨_, rfl, ?_⟩; have HO395 := Aside0.mk (Kd.R_lower (Kd.R_new' ho0 (Kd.R_lt (nr_ HO_5.out))) (below_size (ne_ HB.out))); replace HO_5 := Aside0.mk (Kd.R_elder' (nr_ HO_5.out) (Kd.R_base ho0) hb); replace HB := kB_ HB hb; (try clear hb); (try clear hb2); (try clear hk); (try clear hi); (try clear ho0)))
       go_ret
       exact ⟨_, nw_, by (with_reducible repeat (first | apply Kd.R_alloc | apply Kd.R_drewN | apply Kd.R_drew)); exact Kd.R_mono HO395.out (fun _ hk => trivial), ne_ HB.out⟩

      rw [if_pos c13] at H
      have c13b0 : decide (x20_2 < (l0.length : Int)) = true := decide_eq_true c13
      clear c13
      by_cases c14 : 0 ≤ x20_2
      rotate_left
      ·rw [if_neg c14] at H
       exact absurd H (by simp)
      rw [if_pos c14] at H
      have c14b0 : decide (0 ≤ x20_2) = true := decide_eq_true c14
      clear c14
      by_cases c15 : x20_2 < (l0.length : Int)
      rotate_left
      ·rw [if_neg c15] at H
       exact absurd H (by simp)
      rw [if_pos c15] at H
      have c15b0 : decide (x20_2 < (l0.length : Int)) = true := decide_eq_true c15
      clear c15
      replace H := Option.bind_eq_some_iff.mp H
      obtain ⟨t389, A160, H⟩ := H
      try dsimp only at H
      have A16 := Aside0.mk A160
      clear A160
      by_cases c17 : t389 = 99999
      ·rw [if_pos c17] at H
       have c17b0 : (t389 == 99999) = true := beq_iff_eq.mpr c17
       have c17b1 : (t389 != 99999) = false := bne_eq_false_iff_eq.mpr c17
       clear c17
       have H' := Aside0.mk H
       clear H
       have p387 : 0 ≤ (x20_2 : Int) := of_decide_eq_true nx_
       have q387 : x20_2 < (l0.length : Int) := of_decide_eq_true nx_
       obtain ⟨ad387, e387, hx387_0, hx387_1⟩ := at_T36 HR0.out x20_2 p387 q387
       cases e387
       replace hx387_0 := hb_ HB.out hx387_0
       replace hx387_1 := hb_ HB.out hx387_1
       replace p387 := eq_true p387
       replace q387 := eq_true q387
       go_wp2_with (first | ((with_reducible refine gate_dst (N := 7) rfl ?_); refine bx_ 7 #[.int .i64 0, .int .i64 0] 36 ?_; intro gb388 hg w18 hbox hb; have BK388 := Aside0.mk (hbox); have GW388 := Aside0.mk (zs_ hg (ne_ HB.out)); have GE388 := Aside0.mk (zs_ hg (ne_ HB.out)); replace HO_5 := Aside0.mk (Kd.R_below (Kd.R_elderB (nr_ HO_5.out) gb388 (Nat.le_of_eq hg.symm)) hb); replace HB := kB_ HB hb; clear hb hbox hg; obtain ⟨hcz19_0, hcz19_1, hfz19_0, hfz19_1⟩ := cz2_ BK388.out) | ((with_reducible refine gate_callee (f := 45) rfl ?_); refine gl_ (some 27) Try.func45 #[.slice A1 l1.length c1, .int .i64 ((rd_T36 l0 x20_2).f1)] ?_; (with_reducible refine (impl_arrival.calls k2 _ _ l1 ((rd_T36 l0 x20_2).f1) t389 _ ?side1 ?side2 A16.out).mono ?_); (case side1 => exact Kd.C_below HR1.out (ne_ HB.out)); (case side2 => exact HC1.out); rintro e w20 ⟨rfl, hb⟩; refine ⟨_, rfl, ?_⟩; replace HO_5 := Aside0.mk (Kd.R_below (by (with_reducible repeat (first | apply Kd.R_alloc | apply Kd.R_drewN | apply Kd.R_drew)); exact (Kd.R_mono (rf2_ (Kd.R_mono HO_5.out (fun k_ hk => (⟨hk, hk.2⟩ : _ ∧ k_ ≠ gb388)))) (fun _ h_ => h_.1))) hb); replace BK388 := Aside0.mk (blk_below (g := gb388) (o := .cells #[.int .i64 ((rd_T36 l0 x20_2).f0), .int .i64 ((rd_T36 l0 x20_2).f1)] 36 (0, 0)) (np_ BK388.out) hb); replace HB := kB_ HB hb; (try clear hb); (try clear hb2); (try clear hk); (try clear hi)))
       go_roundg k2
       case measure => have := HJ2.out; have := HK2.out; omega
       case rel => exact ⟨(x5_2), (wrap64 (x20_2 + 1)), ns_, H', ⟨by have := HJ2.out; have := HK2.out; omega⟩, ⟨by (with_reducible repeat (first | apply Kd.R_alloc | apply Kd.R_drewN | apply Kd.R_drew)); exact Kd.R_mono HO_5.out (fun _ hk => trivial)⟩, ⟨ne_ HB.out⟩⟩
      rw [if_neg c17] at H
      have c17b0 : (t389 == 99999) = false := beq_eq_false_iff_ne.mpr c17
      have c17b1 : (t389 != 99999) = true := bne_iff_ne.mpr c17
      by_cases c21 : x5_2.length < 8796093022208
      rotate_left
      ·rw [if_neg c21] at H
       exact absurd H (by simp)
      rw [if_pos c21] at H
      have LMc21 := Aside0.mk c21
      clear c21
      obtain ⟨y390, hy390⟩ : ∃ y_ : List (S36), y_ = (x5_2 ++ [(⟨(rd_T36 l0 x20_2).f0, t389⟩ : S36)]) := ⟨_, rfl⟩
      replace H : (impl_StairLink.l0 k2 l1 y390 l0 (l0.length : Int) (wrap64 (x20_2 + 1))) = some r := by first | (rw [hy390]; with_reducible exact H) | (have H2_ := (Option.bind_some _ _).symm.trans H; rw [hy390]; with_reducible exact H2_) | (have H2_ := (Option.bind_some _ _).symm.trans H; with_reducible exact H2_) | with_reducible exact H | (rw [hy390]; exact H) | exact H
      have Ny390 := Aside0.mk hy390
      clear hy390
      have H' := Aside0.mk H
      clear H
      have p387 : 0 ≤ (x20_2 : Int) := of_decide_eq_true nx_
      have q387 : x20_2 < (l0.length : Int) := of_decide_eq_true nx_
      obtain ⟨ad387, e387, hx387_0, hx387_1⟩ := at_T36 HR0.out x20_2 p387 q387
      cases e387
      replace hx387_0 := hb_ HB.out hx387_0
      replace hx387_1 := hb_ HB.out hx387_1
      replace p387 := eq_true p387
      replace q387 := eq_true q387
      go_wp2_with (first | ((with_reducible refine gate_dst (N := 7) rfl ?_); refine bx_ 7 #[.int .i64 0, .int .i64 0] 36 ?_; intro gb388 hg w22 hbox hb; have BK388 := Aside0.mk (hbox); have GW388 := Aside0.mk (zs_ hg (ne_ HB.out)); have GE388 := Aside0.mk (zs_ hg (ne_ HB.out)); replace HO_5 := Aside0.mk (Kd.R_below (Kd.R_elderB (nr_ HO_5.out) gb388 (Nat.le_of_eq hg.symm)) hb); replace HB := kB_ HB hb; clear hb hbox hg; obtain ⟨hcz23_0, hcz23_1, hfz23_0, hfz23_1⟩ := cz2_ BK388.out) | ((with_reducible refine gate_callee (f := 45) rfl ?_); refine gl_ (some 27) Try.func45 #[.slice A1 l1.length c1, .int .i64 ((rd_T36 l0 x20_2).f1)] ?_; (with_reducible refine (impl_arrival.calls k2 _ _ l1 ((rd_T36 l0 x20_2).f1) t389 _ ?side1 ?side2 A16.out).mono ?_); (case side1 => exact Kd.C_below HR1.out (ne_ HB.out)); (case side2 => exact HC1.out); rintro e w24 ⟨rfl, hb⟩; refine ⟨_, rfl, ?_⟩; replace HO_5 := Aside0.mk (Kd.R_below (by (with_reducible repeat (first | apply Kd.R_alloc | apply Kd.R_drewN | apply Kd.R_drew)); exact (Kd.R_mono (rf2_ (Kd.R_mono HO_5.out (fun k_ hk => (⟨hk, hk.2⟩ : _ ∧ k_ ≠ gb388)))) (fun _ h_ => h_.1))) hb); replace BK388 := Aside0.mk (blk_below (g := gb388) (o := .cells #[.int .i64 ((rd_T36 l0 x20_2).f0), .int .i64 ((rd_T36 l0 x20_2).f1)] 36 (0, 0)) (np_ BK388.out) hb); replace HB := kB_ HB hb; (try clear hb); (try clear hb2); (try clear hk); (try clear hi); obtain ⟨hcz25_0, hcz25_1, hfz25_0, hfz25_1⟩ := cz2_ BK388.out) | ((with_reducible refine gate_builtin (b := .append) (xs := #[.tmp 30, .tmp 35]) rfl ?_); at_builtin; refine Kd.R_append k36 (w0 := w) w.heap.size rfl (.tmp 30) (.tmp 35) 22 36 (.agg #[(.int .i64 0), (.int .i64 0)]) 16 rfl Try.underlying22 info36 rfl (by decide) (by omega) u5 x5_2 (⟨(rd_T36 l0 x20_2).f0, t389⟩ : S36) [.int .i64 ((rd_T36 l0 x20_2).f0), .int .i64 t389] (fun k_ => k_ ≠ gb388) (fun _ => False) rfl rfl ?aP (fun _ hk => hk.elim) ?aF ?aO ?aB ?aS ?aL ?_; (case aP => exact k36_mkM _ _ _ (⟨(rd_T36 l0 x20_2).f0, t389⟩ : S36)); (case aB => exact (ne_ HB.out)); (case aF => exact (fun k_ hk => Kd.freshB (g := gb388) (o := .cells #[.int .i64 ((rd_T36 l0 x20_2).f0), .int .i64 ((rd_T36 l0 x20_2).f1)] 36 (0, 0)) (nb_ BK388.out) k_ hk)); (case aO => exact (by (with_reducible repeat (first | apply Kd.R_alloc | apply Kd.R_drewN | apply Kd.R_drew)); exact Kd.R_mono HO_5.out (fun _ hk => by first | exact hk.2 | trivial | simp_all))); (case aS => exact (below_size (ne_ HB.out))); (case aL => have := LMc21.out; omega); intro v391 w26 ho hb hg hat; rw [← Ny390.out] at ho; have HO392 := Aside0.mk (ho); replace BK388 := Aside0.mk (blk_grown (g := gb388) (o := .cells #[.int .i64 ((rd_T36 l0 x20_2).f0), .int .i64 ((rd_T36 l0 x20_2).f1)] 36 (0, 0)) (nb_ BK388.out) hg (Kd.R_away HO_5.out (fun _ hk => hk.2))); replace HB := Aside0.mk (hb); clear HO_5; clear ho hb hg hat))
      go_roundg k2
      case measure => have := HJ2.out; have := HK2.out; omega
      case rel => exact ⟨(y390), (wrap64 (x20_2 + 1)), ns_, H', ⟨by have := HJ2.out; have := HK2.out; omega⟩, ⟨by (with_reducible repeat (first | apply Kd.R_alloc | apply Kd.R_drewN | apply Kd.R_drew)); exact Kd.R_mono HO392.out (fun _ hk => trivial)⟩, ⟨ne_ HB.out⟩⟩
end Go.Proofs.Ytfpfaaibgaejjaa.Print
