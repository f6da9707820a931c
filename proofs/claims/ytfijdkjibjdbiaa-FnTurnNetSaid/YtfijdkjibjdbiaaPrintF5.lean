-- Made by this session's own program (wip/patch_print.py, over the kit's print). Lean checks it.
import Derived.Test.YtfijdkjibjdbiaaPrint0
import Derived.Test.YtfijdkjibjdbiaaPrintB
import Derived.Test.YtfijdkjibjdbiaaPrintF10
import Derived.Test.YtfijdkjibjdbiaaPrintF14
import Derived.Test.YtfijdkjibjdbiaaPrintF17
namespace Go.Proofs.Ytfijdkjibjdbiaa.Print
open Go.RowKit Go.Proofs.YtfijdkjibjdbiaaW.PrintWords Go.Proofs.YtfijdkjibjdbiaaW.PrintLast Go.Proofs.YtfijdkjibjdbiaaW.PrintMore Go.Proofs.YtfijdkjibjdbiaaX
attribute [local go_sem] max2_int min2_int max_two min_two max_three min_three max_four min_four   -- for this text's walks alone
set_option linter.unusedVariables false
set_option linter.unusedSimpArgs false

/-! ### impl_TurnNet: function 5 -/
mutual
def impl_TurnNet.j0 : Nat → List (S60) → Bool → Int → List (S36) → Option (Int × (List (S36)) × Bool)
  | 0, _, _, _, _ => none
  | k + 1, x1, x22, x217000, x217001 => if x22 = true then (some (0, ([] : List (S36)), false)) else (impl_TurnNet.l0 k x1 x217001 (x217001.length : Int) 0 x217000 x217001 (x217001.length : Int) ([] : List (S36)))
def impl_TurnNet.l0 : Nat → List (S60) → List (S36) → Int → Int → Int → List (S36) → Int → List (S36) → Option (Int × (List (S36)) × Bool)
  | 0, _, _, _, _, _, _, _, _ => none
  | k + 1, x1, x29, x30, x31, x217000, x217001, x221000, x221001 => if x31 < x30 then (if 0 ≤ x31 then (if x31 < (x29.length : Int) then (impl_TurnNet.l1 k x1 x31 x29 x30 x31 x217001 (x217001.length : Int) 0 x217000 x217001 x221000 x221001 ((rd_T36 x29 x31).f0) ((rd_T36 x29 x31).f1) ((rd_T36 x29 x31).f2) ((rd_T36 x29 x31).f3) ((rd_T36 x29 x31).f4)) else (none)) else (none)) else ((impl_NetOk.f x221000 x221001).bind fun t229 => (if t229 = true then ((impl_Arc_17.f x221001).bind fun t230 => (some (x221000, t230, true))) else (some (0, ([] : List (S36)), false))))
def impl_TurnNet.l1 : Nat → List (S60) → Int → List (S36) → Int → Int → List (S36) → Int → Int → Int → List (S36) → Int → List (S36) → Int → Int → Int → Int → Int → Option (Int × (List (S36)) × Bool)
  | 0, _, _, _, _, _, _, _, _, _, _, _, _, _, _, _, _, _ => none
  | k + 1, x1, x7, x29, x30, x31, x37, x38, x39, x217000, x217001, x221000, x221001, x223000, x223001, x223002, x223003, x223004 => if x39 < x38 then (if 0 ≤ x39 then (if x39 < (x37.length : Int) then ((impl_turning.f k x1 x7 x39).bind fun t225 => (if ((rd_T36 x37 x39).f0) = x223001 then (if t225 ≥ 0 then (if x221001.length < 3518437208883 then (impl_TurnNet.l1 k x1 x7 x29 x30 x31 x37 x38 (wrap64 (x39 + 1)) x217000 x217001 x221000 (x221001 ++ [(⟨x7, x39, wrap64 (t225 + ((rd_T36 x37 x39).f2)), 0, 9⟩ : S36)]) x223000 x223001 x223002 x223003 x223004) else (none)) else (impl_TurnNet.l1 k x1 x7 x29 x30 x31 x37 x38 (wrap64 (x39 + 1)) x217000 x217001 x221000 x221001 x223000 x223001 x223002 x223003 x223004)) else (impl_TurnNet.l1 k x1 x7 x29 x30 x31 x37 x38 (wrap64 (x39 + 1)) x217000 x217001 x221000 x221001 x223000 x223001 x223002 x223003 x223004))) else (none)) else (none)) else (impl_TurnNet.l0 k x1 x29 x30 (wrap64 (x31 + 1)) x217000 x217001 x221000 x221001)
end
def impl_TurnNet.f (k : Nat) (a0_0 : Int) (l0_1 : List (S36)) (l1 : List (S60)) : Option (Int × (List (S36)) × Bool) := (impl_TurnsOk.f k a0_0 l0_1 l1).bind fun t218 => (if t218 = true then ((impl_within.f (l0_1.length : Int) 1 8).bind fun t219 => (impl_TurnNet.j0 k l1 (!t219) a0_0 l0_1)) else (impl_TurnNet.j0 k l1 true a0_0 l0_1))
theorem impl_TurnNet.mono_l : ∀ k, (∀ y0 y1 y2 y3, LeO (impl_TurnNet.j0 k y0 y1 y2 y3) (impl_TurnNet.j0 (k + 1) y0 y1 y2 y3)) ∧ (∀ y0 y1 y2 y3 y4 y5 y6 y7, LeO (impl_TurnNet.l0 k y0 y1 y2 y3 y4 y5 y6 y7) (impl_TurnNet.l0 (k + 1) y0 y1 y2 y3 y4 y5 y6 y7)) ∧ (∀ y0 y1 y2 y3 y4 y5 y6 y7 y8 y9 y10 y11 y12 y13 y14 y15 y16, LeO (impl_TurnNet.l1 k y0 y1 y2 y3 y4 y5 y6 y7 y8 y9 y10 y11 y12 y13 y14 y15 y16) (impl_TurnNet.l1 (k + 1) y0 y1 y2 y3 y4 y5 y6 y7 y8 y9 y10 y11 y12 y13 y14 y15 y16))
  | 0 => ⟨fun _ _ _ _ r h => by simp [impl_TurnNet.j0] at h, fun _ _ _ _ _ _ _ _ r h => by simp [impl_TurnNet.l0] at h, fun _ _ _ _ _ _ _ _ _ _ _ _ _ _ _ _ _ r h => by simp [impl_TurnNet.l1] at h⟩
  | k + 1 => by
    obtain ⟨ih0, ih1, ih2⟩ := impl_TurnNet.mono_l k
    refine ⟨?_, ?_, ?_⟩
    · intro y0 y1 y2 y3
      unfold impl_TurnNet.j0
      repeat' first | (with_reducible first | exact ih0 _ _ _ _ | exact ih1 _ _ _ _ _ _ _ _ | exact ih2 _ _ _ _ _ _ _ _ _ _ _ _ _ _ _ _ _ | exact impl_TurnsOk.mono _ _ _ _ | exact impl_turning.mono _ _ _ _ | exact LeO.refl _ | exact LeO.none _ | refine LeO.ite ?_ ?_ | refine LeO.bind ?_ (fun _ => ?_)) | exact ih0 _ _ _ _ | exact ih1 _ _ _ _ _ _ _ _ | exact ih2 _ _ _ _ _ _ _ _ _ _ _ _ _ _ _ _ _ | exact impl_TurnsOk.mono _ _ _ _ | exact impl_turning.mono _ _ _ _ | exact LeO.none _ | refine LeO.ite ?_ ?_ | refine LeO.bind ?_ (fun _ => ?_)
    · intro y0 y1 y2 y3 y4 y5 y6 y7
      unfold impl_TurnNet.l0
      repeat' first | (with_reducible first | exact ih0 _ _ _ _ | exact ih1 _ _ _ _ _ _ _ _ | exact ih2 _ _ _ _ _ _ _ _ _ _ _ _ _ _ _ _ _ | exact impl_TurnsOk.mono _ _ _ _ | exact impl_turning.mono _ _ _ _ | exact LeO.refl _ | exact LeO.none _ | refine LeO.ite ?_ ?_ | refine LeO.bind ?_ (fun _ => ?_)) | exact ih0 _ _ _ _ | exact ih1 _ _ _ _ _ _ _ _ | exact ih2 _ _ _ _ _ _ _ _ _ _ _ _ _ _ _ _ _ | exact impl_TurnsOk.mono _ _ _ _ | exact impl_turning.mono _ _ _ _ | exact LeO.none _ | refine LeO.ite ?_ ?_ | refine LeO.bind ?_ (fun _ => ?_)
    · intro y0 y1 y2 y3 y4 y5 y6 y7 y8 y9 y10 y11 y12 y13 y14 y15 y16
      unfold impl_TurnNet.l1
      repeat' first | (with_reducible first | exact ih0 _ _ _ _ | exact ih1 _ _ _ _ _ _ _ _ | exact ih2 _ _ _ _ _ _ _ _ _ _ _ _ _ _ _ _ _ | exact impl_TurnsOk.mono _ _ _ _ | exact impl_turning.mono _ _ _ _ | exact LeO.refl _ | exact LeO.none _ | refine LeO.ite ?_ ?_ | refine LeO.bind ?_ (fun _ => ?_)) | exact ih0 _ _ _ _ | exact ih1 _ _ _ _ _ _ _ _ | exact ih2 _ _ _ _ _ _ _ _ _ _ _ _ _ _ _ _ _ | exact impl_TurnsOk.mono _ _ _ _ | exact impl_turning.mono _ _ _ _ | exact LeO.none _ | refine LeO.ite ?_ ?_ | refine LeO.bind ?_ (fun _ => ?_)
theorem impl_TurnNet.mono : ∀ a0 a1 a2 k, LeO (impl_TurnNet.f k a0 a1 a2) (impl_TurnNet.f (k + 1) a0 a1 a2) := by
  intro a0 a1 a2 k
  obtain ⟨ih0, ih1, ih2⟩ := impl_TurnNet.mono_l k
  unfold impl_TurnNet.f
  repeat' first | (with_reducible first | exact ih0 _ _ _ _ | exact ih1 _ _ _ _ _ _ _ _ | exact ih2 _ _ _ _ _ _ _ _ _ _ _ _ _ _ _ _ _ | exact impl_TurnsOk.mono _ _ _ _ | exact impl_turning.mono _ _ _ _ | exact LeO.refl _ | exact LeO.none _ | refine LeO.ite ?_ ?_ | refine LeO.bind ?_ (fun _ => ?_)) | exact ih0 _ _ _ _ | exact ih1 _ _ _ _ _ _ _ _ | exact ih2 _ _ _ _ _ _ _ _ _ _ _ _ _ _ _ _ _ | exact impl_TurnsOk.mono _ _ _ _ | exact impl_turning.mono _ _ _ _ | exact LeO.none _ | refine LeO.ite ?_ ?_ | refine LeO.bind ?_ (fun _ => ?_)
set_option maxHeartbeats 200000000 in
set_option maxRecDepth 100000 in
theorem impl_TurnNet.calls (k : Nat) (a0_0 : Int) (A0_1 : Option Addr) (c0_1 : Nat) (l0_1 : List (S36)) (A1 : Option Addr) (c1 : Nat) (l1 : List (S60)) (r1 : Int) (r2 : List (S36)) (r3 : Bool) (w : World) (hr0_1 : Kd.C k36 w A0_1 l0_1.length l0_1) (hc0_1 : l0_1.length ≤ c0_1) (hr1 : Kd.C k60 w A1 l1.length l1) (hc1 : l1.length ≤ c1) (h : impl_TurnNet.f k a0_0 l0_1 l1 = some (r1, r2, r3)) :
    Calls Try.prog 5 #[.agg #[.int .i64 a0_0, .slice A0_1 l0_1.length c0_1], .slice A1 l1.length c1] w fun e w' => ∃ v1_ : Value, e = .returned (.tuple #[.agg #[.int .i64 r1, v1_], .bool r3]) ∧ Kd.R k36 36 w' w.heap.size (fun _ => True) v1_ r2 ∧ Below w.heap.size w w' := by
  have hu25 := Try.underlying25
  have hu36 := Try.underlying36
  have HR0_1 := Aside0.mk hr0_1
  have HC0_1 := Aside0.mk hc0_1
  clear hr0_1 hc0_1
  have HR1 := Aside0.mk hr1
  have HC1 := Aside0.mk hc1
  clear hr1 hc1
  have HB := Aside0.mk (Below.refl w.heap.size w)
  have H : ((impl_TurnsOk.f k a0_0 l0_1 l1).bind fun t218 => (if t218 = true then ((impl_within.f (l0_1.length : Int) 1 8).bind fun t219 => (impl_TurnNet.j0 k l1 (!t219) a0_0 l0_1)) else (impl_TurnNet.j0 k l1 true a0_0 l0_1))) = some (r1, r2, r3) := h
  clear h
  have HC3 := Aside0.mk H
  clear H
  go_enter Try.func5, Try.ntmps5
  go_upto_region 1 with (first | ((with_reducible refine gate_dst (N := 2) rfl ?_); (try (refine gate_guard (by rfl) ?_; dsimp only)); refine bx_ 2 #[.int .i64 a0_0, .slice A0_1 l0_1.length c0_1] 25 ?_; intro gb216 hg w4 hbox hb; have BK216 := Aside0.mk (hbox); have GW216 := Aside0.mk (zs_ hg (ne_ HB.out)); have GE216 := Aside0.mk (zs_ hg (ne_ HB.out)); replace HB := kB_ HB hb; clear hb hbox hg) | ((with_reducible refine gate_dst (N := 4) rfl ?_); (try (refine gate_guard (by rfl) ?_; dsimp only)); refine bx_ 4 #[.int .i64 0, .slice none 0 0] 25 ?_; intro gb217 hg w5 hbox hb; have BK217 := Aside0.mk (hbox); have GW217 := Aside0.mk (zs_ hg (ne_ HB.out)); have GE217 := Aside0.mk (zs_ hg (ne_ HB.out)); have NB216_217 := Aside0.mk (nl_ BK216.out hg); have NB217_216 := Aside0.mk (nm_ BK216.out hg); replace BK216 := kb_ BK216 hb; replace HB := kB_ HB hb; clear hb hbox hg))
  (try simp only [Act.put, List.setIfInBounds_toArray, List.set_cons_zero, List.set_cons_succ])
  go_cut [22] (fun v22 wc => ∃ (kq : Nat) (x22_2 : Bool), v22 = .bool x22_2 ∧ Aside0 (impl_TurnNet.j0 kq l1 x22_2 a0_0 l0_1 = some (r1, r2, r3)) ∧ Aside0 (kq ≤ k) ∧ Aside0 (wc.heap[gb216]? = some (.cells #[.int .i64 a0_0, (.slice A0_1 l0_1.length c0_1)] 25 (0, 0))) ∧ Aside0 (wc.heap[gb217]? = some (.cells #[.int .i64 0, (.slice none 0 0)] 25 (0, 0))) ∧ Aside0 (Below w.heap.size w wc))
  case first =>
   have H := HC3.out
   clear HC3
   replace H := Option.bind_eq_some_iff.mp H
   obtain ⟨t218, A60, H⟩ := H
   try dsimp only at H
   have A6 := Aside0.mk A60
   clear A60
   by_cases c7 : t218 = true
   rotate_left
   ·replace c7 := Bool.eq_false_iff.mpr c7
    subst c7
    have H1 : (impl_TurnNet.j0 k l1 true a0_0 l0_1) = some (r1, r2, r3) := by rw [if_neg (show ¬ (false = true) by decide)] at H; exact H
    clear H
    have H := H1
    clear H1
    have H' := Aside0.mk H
    clear H
    have hnb13 := NB216_217.out
    have hnc13 := NB217_216.out
    obtain ⟨hcz14_0, hcz14_1, hfz14_0, hfz14_1⟩ := cz2_ BK216.out
    go_wp2_with (first | ((with_reducible refine gate_callee (f := 14) rfl ?_); refine gl_ (some 14) Try.func14 #[.agg #[.int .i64 a0_0, .slice A0_1 l0_1.length c0_1], .slice A1 l1.length c1] ?_; (with_reducible refine (impl_TurnsOk.calls k a0_0 _ _ l0_1 _ _ l1 false _ ?side1 ?side2 ?side3 ?side4 A6.out).mono ?_); (case side1 => exact nc_ (Kd.C_below HR0_1.out HB.out)); (case side2 => exact HC0_1.out); (case side3 => exact nc_ (Kd.C_below HR1.out HB.out)); (case side4 => exact HC1.out); rintro e w15 ⟨rfl, hb⟩; refine ⟨_, rfl, ?_⟩; replace BK216 := kb_ BK216 hb; replace BK217 := kb_ BK217 hb; replace HB := kB_ HB hb; (try clear hb); (try clear hb2); (try clear hk); (try clear hi)))
    go_meet
    case rel => exact ⟨_, (true), ns_, H', ⟨by first | omega | exact Nat.le_refl _⟩, ⟨nb_ BK216.out⟩, ⟨nb_ BK217.out⟩, ⟨ne_ HB.out⟩⟩
   subst c7
   rw [if_pos rfl] at H
   replace H := Option.bind_eq_some_iff.mp H
   obtain ⟨t219, A80, H⟩ := H
   replace H : (impl_TurnNet.j0 k l1 (!t219) a0_0 l0_1) = some (r1, r2, r3) := H
   have A8 := Aside0.mk A80
   clear A80
   have H' := Aside0.mk H
   clear H
   have hnb9 := NB216_217.out
   have hnc9 := NB217_216.out
   obtain ⟨hcz10_0, hcz10_1, hfz10_0, hfz10_1⟩ := cz2_ BK216.out
   go_wp2_with (first | ((with_reducible refine gate_callee (f := 14) rfl ?_); refine gl_ (some 14) Try.func14 #[.agg #[.int .i64 a0_0, .slice A0_1 l0_1.length c0_1], .slice A1 l1.length c1] ?_; (with_reducible refine (impl_TurnsOk.calls k a0_0 _ _ l0_1 _ _ l1 true _ ?side1 ?side2 ?side3 ?side4 A6.out).mono ?_); (case side1 => exact nc_ (Kd.C_below HR0_1.out HB.out)); (case side2 => exact HC0_1.out); (case side3 => exact nc_ (Kd.C_below HR1.out HB.out)); (case side4 => exact HC1.out); rintro e w11 ⟨rfl, hb⟩; refine ⟨_, rfl, ?_⟩; replace BK216 := kb_ BK216 hb; replace BK217 := kb_ BK217 hb; replace HB := kB_ HB hb; (try clear hb); (try clear hb2); (try clear hk); (try clear hi); obtain ⟨hcz12_0, hcz12_1, hfz12_0, hfz12_1⟩ := cz2_ BK216.out) | (go_at_call 15; (with_reducible refine (impl_within.calls (l0_1.length : Int) 1 8 t219 _ A8.out).mono ?_); rintro e w' ⟨rfl, ⟨nd, rfl⟩⟩))
   go_meet
   case rel => exact ⟨_, (!t219), ns_, H', ⟨by first | omega | exact Nat.le_refl _⟩, ⟨nb_ BK216.out⟩, ⟨nb_ BK217.out⟩, ⟨ne_ HB.out⟩⟩
  case rest =>
   clear HC3
   try clear c1
   obtain ⟨kq, x22_2, rfl, HA, HJ2, BK216, BK217, HB⟩ := hcut
   cases kq with
   | zero => exact absurd HA.out (by simp [impl_TurnNet.j0])
   | succ kj2 =>
    have H := HA.out
    clear HA
    simp only [impl_TurnNet.j0] at H
    by_cases c16 : x22_2 = true
    ·subst c16
     have H1 : (some (0, ([] : List (S36)), false)) = some (r1, r2, r3) := by rw [if_pos rfl] at H; exact H
     clear H
     have H := H1
     clear H1
     simp only [Option.some.injEq, Prod.mk.injEq] at H
     obtain ⟨rfl, rfl, rfl⟩ := H
     have hnb17 := NB217_216.out
     have hnc17 := NB216_217.out
     obtain ⟨hcz18_0, hcz18_1, hfz18_0, hfz18_1⟩ := cz2_ BK217.out
     go_wp2
     refine bodyPost_ret (results_ct rfl _ _ gb217 25 #[.int .i64 0, .slice none 0 0] (0, 0) _ rfl (np_ BK217.out) Try.underlying25 rfl (by kernel_rfl)) rfl ?_
     exact ⟨_, nw_, by first | exact Kd.R_nil _ _ _ _ _ | exact Kd.N_nil _ _ _ _ _ | exact Kd.V_nil _ _ _ _ _ | exact Kd.Q_nil _ _ _ _ _ | exact Kd.S_nil _ _ _ _ _, ne_ HB.out⟩
    replace c16 := Bool.eq_false_iff.mpr c16
    subst c16
    have H1 : (impl_TurnNet.l0 kj2 l1 l0_1 (l0_1.length : Int) 0 a0_0 l0_1 (l0_1.length : Int) ([] : List (S36))) = some (r1, r2, r3) := by rw [if_neg (show ¬ (false = true) by decide)] at H; exact H
    clear H
    have H := H1
    clear H1
    have H' := Aside0.mk H
    clear H
    have hnb19 := NB216_217.out
    have hnc19 := NB217_216.out
    obtain ⟨hcz20_0, hcz20_1, hfz20_0, hfz20_1⟩ := cz2_ BK216.out
    go_wp2_with (first | ((with_reducible refine gate_dst (N := 6) rfl ?_); (try (refine gate_guard (by rfl) ?_; dsimp only)); refine bx_ 6 #[.int .i64 0, .slice none 0 0] 25 ?_; intro gb220 hg w21 hbox hb; have BK220 := Aside0.mk (hbox); have GW220 := Aside0.mk (zs_ hg (ne_ HB.out)); have GE220 := Aside0.mk (zs_ hg (ne_ HB.out)); have NB216_220 := Aside0.mk (nl_ BK216.out hg); have NB220_216 := Aside0.mk (nm_ BK216.out hg); have NB217_220 := Aside0.mk (nl_ BK217.out hg); have NB220_217 := Aside0.mk (nm_ BK217.out hg); replace BK216 := kb_ BK216 hb; replace BK217 := kb_ BK217 hb; replace HB := kB_ HB hb; clear hb hbox hg; have hnb22 := NB220_216.out; have hnc22 := NB216_220.out; have hnb23 := NB220_217.out; have hnc23 := NB217_220.out; obtain ⟨hcz24_0, hcz24_1, hfz24_0, hfz24_1⟩ := cz2_ BK220.out; obtain ⟨hcz25_0, hcz25_1, hfz25_0, hfz25_1⟩ := cz2_ BK216.out))
    go_loopg [31] kj2 (fun kq v31 w' => ∃ (x31_2 : Int) (x221001_2 : List (S36)) (u221001 : Value), v31 = .int .i64 x31_2 ∧ Aside0 (impl_TurnNet.l0 kq l1 l0_1 (l0_1.length : Int) x31_2 a0_0 l0_1 (l0_1.length : Int) x221001_2 = some (r1, r2, r3)) ∧ Aside0 (kq ≤ kj2) ∧ Aside0 (Kd.R k36 36 w' w.heap.size (fun _ => True) u221001 x221001_2) ∧ Aside0 (w'.heap[gb216]? = some (.cells #[.int .i64 a0_0, (.slice A0_1 l0_1.length c0_1)] 25 (0, 0))) ∧ Aside0 (w'.heap[gb217]? = some (.cells #[.int .i64 0, (.slice none 0 0)] 25 (0, 0))) ∧ Aside0 (w'.heap[gb220]? = some (.cells #[.int .i64 (l0_1.length : Int), u221001] 25 (0, 0))) ∧ Aside0 (Below w.heap.size w w'))
    case atStart => exact ⟨(0), (([] : List (S36))), (.slice none 0 0), ns_, H', ⟨Nat.le_refl _⟩, ⟨by first | exact Kd.R_nil _ _ _ _ _ | exact Kd.N_nil _ _ _ _ _ | exact Kd.V_nil _ _ _ _ _ | exact Kd.Q_nil _ _ _ _ _ | exact Kd.S_nil _ _ _ _ _⟩, ⟨np_ BK216.out⟩, ⟨np_ BK217.out⟩, ⟨np_ BK220.out⟩, ⟨ne_ HB.out⟩⟩
    case round =>
     clear H'
     try clear c1
     try clear c16
     try clear hcz20_0
     try clear hcz20_1
     try clear hcz24_0
     try clear hcz24_1
     try clear hcz25_0
     try clear hcz25_1
     try clear hfz20_0
     try clear hfz20_1
     try clear hfz24_0
     try clear hfz24_1
     try clear hfz25_0
     try clear hfz25_1
     obtain ⟨x31_2, x221001_2, u221001, rfl, HA, HK2, HO_221001, BK216, BK217, BK220, HB⟩ := hrel
     cases gk with
     | zero => exact absurd HA.out (by simp [impl_TurnNet.l0])
     | succ k2 =>
      have H := HA.out
      clear HA
      simp only [impl_TurnNet.l0] at H
      by_cases c26 : x31_2 < (l0_1.length : Int)
      rotate_left
      ·rw [if_neg c26] at H
       have c26b0 : decide (x31_2 < (l0_1.length : Int)) = false := decide_eq_false c26
       clear c26
       replace H := Option.bind_eq_some_iff.mp H
       obtain ⟨t229, A860, H⟩ := H
       try dsimp only at H
       have A86 := Aside0.mk A860
       clear A860
       by_cases c87 : t229 = true
       rotate_left
       ·replace c87 := Bool.eq_false_iff.mpr c87
        subst c87
        have H1 : (some (0, ([] : List (S36)), false)) = some (r1, r2, r3) := by rw [if_neg (show ¬ (false = true) by decide)] at H; exact H
        clear H
        have H := H1
        clear H1
        simp only [Option.some.injEq, Prod.mk.injEq] at H
        obtain ⟨rfl, rfl, rfl⟩ := H
        have hnb100 := NB220_216.out
        have hnc100 := NB216_220.out
        have hnb101 := NB220_217.out
        have hnc101 := NB217_220.out
        obtain ⟨hcz102_0, hcz102_1, hfz102_0, hfz102_1⟩ := cz2_ BK220.out
        obtain ⟨Ao103, co103, eo103⟩ := Kd.R_slice HO_221001.out
        subst eo103
        go_wp2_with (first | ((with_reducible refine gate_callee (f := 10) rfl ?_); refine gl_ (some 72) Try.func10 #[.agg #[.int .i64 (l0_1.length : Int), .slice Ao103 x221001_2.length co103]] ?_; (with_reducible refine (impl_NetOk.calls (l0_1.length : Int) _ _ x221001_2 false _ ?side1 ?side2 A86.out).mono ?_); (case side1 => exact nc_ (Kd.R_reads' HO_221001.out).2.2); (case side2 => exact (Kd.R_reads' HO_221001.out).2.1); rintro e w104 ⟨rfl, hb⟩; refine ⟨_, rfl, ?_⟩; replace HO_221001 := kR_ HO_221001 hb; replace BK216 := kb_ BK216 hb; replace BK217 := kb_ BK217 hb; replace BK220 := kb_ BK220 hb; replace HB := kB_ HB hb; (try clear hb); (try clear hb2); (try clear hk); (try clear hi); have hnb105 := NB217_216.out; have hnc105 := NB216_217.out; obtain ⟨hcz106_0, hcz106_1, hfz106_0, hfz106_1⟩ := cz2_ BK217.out))
        refine bodyPost_ret (results_ct rfl _ _ gb217 25 #[.int .i64 0, .slice none 0 0] (0, 0) _ rfl (np_ BK217.out) Try.underlying25 rfl (by kernel_rfl)) rfl ?_
        exact ⟨_, nw_, by first | exact Kd.R_nil _ _ _ _ _ | exact Kd.N_nil _ _ _ _ _ | exact Kd.V_nil _ _ _ _ _ | exact Kd.Q_nil _ _ _ _ _ | exact Kd.S_nil _ _ _ _ _, ne_ HB.out⟩

       subst c87
       rw [if_pos rfl] at H
       replace H := Option.bind_eq_some_iff.mp H
       obtain ⟨t230, A880, H⟩ := H
       replace H : (some ((l0_1.length : Int), t230, true)) = some (r1, r2, r3) := H
       have A88 := Aside0.mk A880
       clear A880
       simp only [Option.some.injEq, Prod.mk.injEq] at H
       obtain ⟨rfl, rfl, rfl⟩ := H
       have hnb89 := NB220_216.out
       have hnc89 := NB216_220.out
       have hnb90 := NB220_217.out
       have hnc90 := NB217_220.out
       obtain ⟨hcz91_0, hcz91_1, hfz91_0, hfz91_1⟩ := cz2_ BK220.out
       obtain ⟨Ao92, co92, eo92⟩ := Kd.R_slice HO_221001.out
       subst eo92
       go_wp2_with (first | ((with_reducible refine gate_callee (f := 10) rfl ?_); refine gl_ (some 72) Try.func10 #[.agg #[.int .i64 (l0_1.length : Int), .slice Ao92 x221001_2.length co92]] ?_; (with_reducible refine (impl_NetOk.calls (l0_1.length : Int) _ _ x221001_2 true _ ?side1 ?side2 A86.out).mono ?_); (case side1 => exact nc_ (Kd.R_reads' HO_221001.out).2.2); (case side2 => exact (Kd.R_reads' HO_221001.out).2.1); rintro e w93 ⟨rfl, hb⟩; refine ⟨_, rfl, ?_⟩; replace HO_221001 := kR_ HO_221001 hb; replace BK216 := kb_ BK216 hb; replace BK217 := kb_ BK217 hb; replace BK220 := kb_ BK220 hb; replace HB := kB_ HB hb; (try clear hb); (try clear hb2); (try clear hk); (try clear hi); obtain ⟨hcz94_0, hcz94_1, hfz94_0, hfz94_1⟩ := cz2_ BK220.out) | ((with_reducible refine gate_callee (f := 17) rfl ?_); refine gl_ (some 77) Try.func17 #[.slice Ao92 x221001_2.length co92] ?_; (with_reducible refine (impl_Arc_17.calls (fun k_ => some k_ = (.slice Ao92 x221001_2.length co92 : Value).ownBlock) (.slice Ao92 x221001_2.length co92) x221001_2 t230 w _ ?side1 ?side2 A88.out).mono ?_); (case side1 => exact (ne_ HB.out)); (case side2 => exact Kd.R_tight rfl HO_221001.out); rintro e w95 ⟨v231, rfl, ho0, hb, hkp⟩; refine ⟨_, rfl, ?_⟩; have HO232 := Aside0.mk (Kd.R_mono (ok' := fun k_ => True) ho0 (fun k_ hk_ => trivial)); replace BK216 := Aside0.mk (blk_kept (g := gb216) (o := .cells #[.int .i64 a0_0, .slice A0_1 l0_1.length c0_1] 25 (0, 0)) (nb_ BK216.out) hkp (fun hs_ => (fun e_ => (Kd.R_ne HO_221001.out BK216.out (by decide)) e_) hs_)); replace BK217 := Aside0.mk (blk_kept (g := gb217) (o := .cells #[.int .i64 0, .slice none 0 0] 25 (0, 0)) (nb_ BK217.out) hkp (fun hs_ => (fun e_ => (Kd.R_ne HO_221001.out BK217.out (by decide)) e_) hs_)); replace BK220 := Aside0.mk (blk_kept (g := gb220) (o := .cells #[.int .i64 (l0_1.length : Int), .slice Ao92 x221001_2.length co92] 25 (0, 0)) (nb_ BK220.out) hkp (fun hs_ => (fun e_ => (Kd.R_ne HO_221001.out BK220.out (by decide)) e_) hs_)); replace HB := Aside0.mk (hb); clear HO_221001; (try clear hb); (try clear hkp); (try clear ho0); obtain ⟨Ao96, co96, eo96⟩ := Kd.R_slice HO232.out; subst eo96; obtain ⟨hcz97_0, hcz97_1, hfz97_0, hfz97_1⟩ := cz2_ BK220.out; have hnb98 := NB217_216.out; have hnc98 := NB216_217.out; obtain ⟨hcz99_0, hcz99_1, hfz99_0, hfz99_1⟩ := cz2_ BK217.out))
       refine bodyPost_ret (results_ct rfl _ _ gb217 25 #[.int .i64 (l0_1.length : Int), .slice Ao96 t230.length co96] (0, 0) _ rfl (np_ BK217.out) Try.underlying25 rfl (by kernel_rfl)) rfl ?_
       exact ⟨_, nw_, by (with_reducible repeat (first | apply Kd.R_alloc | apply Kd.R_drewN | apply Kd.R_drew)); exact Kd.R_mono (rf2_ (Kd.R_far (p := ⟨gb220, 1, none⟩) (Kd.R_types (Kd.R_types HO232.out BK220.out (by decide)) BK217.out (by decide)) (fun _ hk => hk.1.2) (.slice Ao96 t230.length co96))) (fun _ hk => trivial), ne_ HB.out⟩
      rw [if_pos c26] at H
      have c26b0 : decide (x31_2 < (l0_1.length : Int)) = true := decide_eq_true c26
      clear c26
      by_cases c27 : 0 ≤ x31_2
      rotate_left
      ·rw [if_neg c27] at H
       exact absurd H (by simp)
      rw [if_pos c27] at H
      have c27b0 : decide (0 ≤ x31_2) = true := decide_eq_true c27
      clear c27
      by_cases c28 : x31_2 < (l0_1.length : Int)
      rotate_left
      ·rw [if_neg c28] at H
       exact absurd H (by simp)
      rw [if_pos c28] at H
      have c28b0 : decide (x31_2 < (l0_1.length : Int)) = true := decide_eq_true c28
      clear c28
      have H' := Aside0.mk H
      clear H
      have p221 : 0 ≤ (x31_2 : Int) := of_decide_eq_true nx_
      have q221 : x31_2 < (l0_1.length : Int) := of_decide_eq_true nx_
      obtain ⟨ad221, e221, hx221_0, hx221_1, hx221_2, hx221_3, hx221_4⟩ := at_T36 HR0_1.out x31_2 p221 q221
      cases e221
      replace hx221_0 := hb_ HB.out hx221_0
      replace hx221_1 := hb_ HB.out hx221_1
      replace hx221_2 := hb_ HB.out hx221_2
      replace hx221_3 := hb_ HB.out hx221_3
      replace hx221_4 := hb_ HB.out hx221_4
      replace p221 := eq_true p221
      replace q221 := eq_true q221
      go_wp2_with (first | ((with_reducible refine gate_dst (N := 8) rfl ?_); (try (refine gate_guard (by rfl) ?_; dsimp only)); refine bx_ 8 #[.int .i64 0, .int .i64 0, .int .i64 0, .int .i64 0, .int .i64 0] 36 ?_; intro gb222 hg w29 hbox hb; have BK222 := Aside0.mk (hbox); have GW222 := Aside0.mk (zs_ hg (ne_ HB.out)); have GE222 := Aside0.mk (zs_ hg (ne_ HB.out)); have NB216_222 := Aside0.mk (nl_ BK216.out hg); have NB222_216 := Aside0.mk (nm_ BK216.out hg); have NB217_222 := Aside0.mk (nl_ BK217.out hg); have NB222_217 := Aside0.mk (nm_ BK217.out hg); have NB220_222 := Aside0.mk (nl_ BK220.out hg); have NB222_220 := Aside0.mk (nm_ BK220.out hg); replace HO_221001 := Aside0.mk (Kd.R_below (Kd.R_elderB (nr_ HO_221001.out) gb222 (Nat.le_of_eq hg.symm)) hb); replace BK216 := kb_ BK216 hb; replace BK217 := kb_ BK217 hb; replace BK220 := kb_ BK220 hb; replace HB := kB_ HB hb; clear hb hbox hg; have hnb30 := NB222_216.out; have hnc30 := NB216_222.out; have hnb31 := NB222_217.out; have hnc31 := NB217_222.out; have hnb32 := NB222_220.out; have hnc32 := NB220_222.out; obtain ⟨hcz33_0, hcz33_1, hcz33_2, hcz33_3, hcz33_4, hfz33_0, hfz33_1, hfz33_2, hfz33_3, hfz33_4⟩ := cz5_ BK222.out; have hnb34 := NB216_217.out; have hnc34 := NB217_216.out; have hnb35 := NB216_220.out; have hnc35 := NB220_216.out; obtain ⟨hcz36_0, hcz36_1, hfz36_0, hfz36_1⟩ := cz2_ BK216.out))
      go_loopg [39] k2 (fun kq v39 w' => ∃ (x39_3 : Int) (x221001_3 : List (S36)) (u221001 : Value), v39 = .int .i64 x39_3 ∧ Aside0 (impl_TurnNet.l1 kq l1 x31_2 l0_1 (l0_1.length : Int) x31_2 l0_1 (l0_1.length : Int) x39_3 a0_0 l0_1 (l0_1.length : Int) x221001_3 ((rd_T36 l0_1 x31_2).f0) ((rd_T36 l0_1 x31_2).f1) ((rd_T36 l0_1 x31_2).f2) ((rd_T36 l0_1 x31_2).f3) ((rd_T36 l0_1 x31_2).f4) = some (r1, r2, r3)) ∧ Aside0 (kq ≤ k2) ∧ Aside0 (Kd.R k36 36 w' w.heap.size (fun k_ => k_ ≠ gb222) u221001 x221001_3) ∧ Aside0 (w'.heap[gb216]? = some (.cells #[.int .i64 a0_0, (.slice (some ad221) l0_1.length c0_1)] 25 (0, 0))) ∧ Aside0 (w'.heap[gb217]? = some (.cells #[.int .i64 0, (.slice none 0 0)] 25 (0, 0))) ∧ Aside0 (w'.heap[gb220]? = some (.cells #[.int .i64 (l0_1.length : Int), u221001] 25 (0, 0))) ∧ Aside0 (w'.heap[gb222]? = some (.cells #[.int .i64 ((rd_T36 l0_1 x31_2).f0), .int .i64 ((rd_T36 l0_1 x31_2).f1), .int .i64 ((rd_T36 l0_1 x31_2).f2), .int .i64 ((rd_T36 l0_1 x31_2).f3), .int .i64 ((rd_T36 l0_1 x31_2).f4)] 36 (0, 0))) ∧ Aside0 (Below w.heap.size w w'))
      case atStart => exact ⟨(0), (x221001_2), (u221001), ns_, H', ⟨Nat.le_refl _⟩, ⟨by (with_reducible repeat (first | apply Kd.R_alloc | apply Kd.R_drewN | apply Kd.R_drew)); exact Kd.R_mono (rf5_ (Kd.R_mono HO_221001.out (fun k_ hk => (⟨hk, hk.2⟩ : _ ∧ k_ ≠ gb222)))) (fun _ hk => by first | exact hk.1.2 | trivial | simp_all)⟩, ⟨np_ BK216.out⟩, ⟨np_ BK217.out⟩, ⟨np_ BK220.out⟩, ⟨np_ BK222.out⟩, ⟨ne_ HB.out⟩⟩
      case round =>
       clear H'
       try clear c1
       try clear c16
       try clear c26
       try clear c26b0
       try clear c27
       try clear c27b0
       try clear c28
       try clear c28b0
       try clear hcz20_0
       try clear hcz20_1
       try clear hcz24_0
       try clear hcz24_1
       try clear hcz25_0
       try clear hcz25_1
       try clear hcz33_0
       try clear hcz33_1
       try clear hcz33_2
       try clear hcz33_3
       try clear hcz33_4
       try clear hcz36_0
       try clear hcz36_1
       try clear hfz20_0
       try clear hfz20_1
       try clear hfz24_0
       try clear hfz24_1
       try clear hfz25_0
       try clear hfz25_1
       try clear hfz33_0
       try clear hfz33_1
       try clear hfz33_2
       try clear hfz33_3
       try clear hfz33_4
       try clear hfz36_0
       try clear hfz36_1
       try clear hx221_0
       try clear hx221_1
       try clear hx221_2
       try clear hx221_3
       try clear hx221_4
       try clear p221
       try clear q221
       obtain ⟨x39_3, x221001_3, u221001, rfl, HA, HK3, HO_221001, BK216, BK217, BK220, BK222, HB⟩ := hrel
       cases gk with
       | zero => exact absurd HA.out (by simp [impl_TurnNet.l1])
       | succ k3 =>
        have H := HA.out
        clear HA
        simp only [impl_TurnNet.l1] at H
        by_cases c37 : x39_3 < (l0_1.length : Int)
        rotate_left
        ·rw [if_neg c37] at H
         have c37b0 : decide (x39_3 < (l0_1.length : Int)) = false := decide_eq_false c37
         clear c37
         have H' := Aside0.mk H
         clear H
         go_wp2
         go_roundg k3
         case measure => have := HJ2.out; have := HK2.out; have := HK3.out; omega
         case rel => exact ⟨(wrap64 (x31_2 + 1)), (x221001_3), (u221001), ns_, H', ⟨by have := HJ2.out; have := HK2.out; have := HK3.out; omega⟩, ⟨by (with_reducible repeat (first | apply Kd.R_alloc | apply Kd.R_drewN | apply Kd.R_drew)); exact Kd.R_mono HO_221001.out (fun _ hk => trivial)⟩, ⟨nb_ BK216.out⟩, ⟨nb_ BK217.out⟩, ⟨nb_ BK220.out⟩, ⟨ne_ HB.out⟩⟩
        rw [if_pos c37] at H
        have c37b0 : decide (x39_3 < (l0_1.length : Int)) = true := decide_eq_true c37
        clear c37
        by_cases c38 : 0 ≤ x39_3
        rotate_left
        ·rw [if_neg c38] at H
         exact absurd H (by simp)
        rw [if_pos c38] at H
        have c38b0 : decide (0 ≤ x39_3) = true := decide_eq_true c38
        clear c38
        by_cases c39 : x39_3 < (l0_1.length : Int)
        rotate_left
        ·rw [if_neg c39] at H
         exact absurd H (by simp)
        rw [if_pos c39] at H
        have c39b0 : decide (x39_3 < (l0_1.length : Int)) = true := decide_eq_true c39
        clear c39
        replace H := Option.bind_eq_some_iff.mp H
        obtain ⟨t225, A400, H⟩ := H
        try dsimp only at H
        have A40 := Aside0.mk A400
        clear A400
        by_cases c41 : ((rd_T36 l0_1 x39_3).f0) = ((rd_T36 l0_1 x31_2).f1)
        rotate_left
        ·rw [if_neg c41] at H
         have c41b0 : (((rd_T36 l0_1 x39_3).f0) == ((rd_T36 l0_1 x31_2).f1)) = false := beq_eq_false_iff_ne.mpr c41
         have c41b1 : (((rd_T36 l0_1 x39_3).f0) != ((rd_T36 l0_1 x31_2).f1)) = true := bne_iff_ne.mpr c41
         have H' := Aside0.mk H
         clear H
         have p223 : 0 ≤ (x39_3 : Int) := of_decide_eq_true nx_
         have q223 : x39_3 < (l0_1.length : Int) := of_decide_eq_true nx_
         obtain ⟨ad223, e223, hx223_0, hx223_1, hx223_2, hx223_3, hx223_4⟩ := at_T36 HR0_1.out x39_3 p223 q223
         obtain rfl : ad221 = ad223 := (by injection e223)
         replace hx223_0 := hb_ HB.out hx223_0
         replace hx223_1 := hb_ HB.out hx223_1
         replace hx223_2 := hb_ HB.out hx223_2
         replace hx223_3 := hb_ HB.out hx223_3
         replace hx223_4 := hb_ HB.out hx223_4
         replace p223 := eq_true p223
         replace q223 := eq_true q223
         go_wp2_with (first | ((with_reducible refine gate_dst (N := 10) rfl ?_); (try (refine gate_guard (by rfl) ?_; dsimp only)); refine bx_ 10 #[.int .i64 0, .int .i64 0, .int .i64 0, .int .i64 0, .int .i64 0] 36 ?_; intro gb224 hg w74 hbox hb; have BK224 := Aside0.mk (hbox); have GW224 := Aside0.mk (zs_ hg (ne_ HB.out)); have GE224 := Aside0.mk (zs_ hg (ne_ HB.out)); have NB216_224 := Aside0.mk (nl_ BK216.out hg); have NB224_216 := Aside0.mk (nm_ BK216.out hg); have NB217_224 := Aside0.mk (nl_ BK217.out hg); have NB224_217 := Aside0.mk (nm_ BK217.out hg); have NB220_224 := Aside0.mk (nl_ BK220.out hg); have NB224_220 := Aside0.mk (nm_ BK220.out hg); have NB222_224 := Aside0.mk (nl_ BK222.out hg); have NB224_222 := Aside0.mk (nm_ BK222.out hg); replace HO_221001 := Aside0.mk (Kd.R_below (Kd.R_elderB (nr_ HO_221001.out) gb224 (Nat.le_of_eq hg.symm)) hb); replace BK216 := kb_ BK216 hb; replace BK217 := kb_ BK217 hb; replace BK220 := kb_ BK220 hb; replace BK222 := kb_ BK222 hb; replace HB := kB_ HB hb; clear hb hbox hg; have hnb75 := NB224_216.out; have hnc75 := NB216_224.out; have hnb76 := NB224_217.out; have hnc76 := NB217_224.out; have hnb77 := NB224_220.out; have hnc77 := NB220_224.out; have hnb78 := NB224_222.out; have hnc78 := NB222_224.out; obtain ⟨hcz79_0, hcz79_1, hcz79_2, hcz79_3, hcz79_4, hfz79_0, hfz79_1, hfz79_2, hfz79_3, hfz79_4⟩ := cz5_ BK224.out) | ((with_reducible refine gate_callee (f := 16) rfl ?_); refine gl_ (some 47) Try.func16 #[.slice A1 l1.length c1, .int .i64 x31_2, .int .i64 x39_3] ?_; (with_reducible refine (impl_turning.calls k3 _ _ l1 x31_2 x39_3 t225 _ ?side1 ?side2 A40.out).mono ?_); (case side1 => exact Kd.C_below HR1.out (ne_ HB.out)); (case side2 => exact HC1.out); rintro e w80 ⟨rfl, hb⟩; refine ⟨_, rfl, ?_⟩; replace HO_221001 := Aside0.mk (Kd.R_below (by (with_reducible repeat (first | apply Kd.R_alloc | apply Kd.R_drewN | apply Kd.R_drew)); exact (Kd.R_mono (rf5_ (Kd.R_mono HO_221001.out (fun k_ hk => (⟨hk, hk.2⟩ : _ ∧ k_ ≠ gb224)))) (fun _ h_ => h_.1))) hb); replace BK216 := kf_ BK216 hb; replace BK217 := kf_ BK217 hb; replace BK220 := kf_ BK220 hb; replace BK222 := kf_ BK222 hb; replace BK224 := Aside0.mk (blk_below (g := gb224) (o := .cells #[.int .i64 ((rd_T36 l0_1 x39_3).f0), .int .i64 ((rd_T36 l0_1 x39_3).f1), .int .i64 ((rd_T36 l0_1 x39_3).f2), .int .i64 ((rd_T36 l0_1 x39_3).f3), .int .i64 ((rd_T36 l0_1 x39_3).f4)] 36 (0, 0)) (np_ BK224.out) hb); replace HB := kB_ HB hb; (try clear hb); (try clear hb2); (try clear hk); (try clear hi); obtain ⟨hcz81_0, hcz81_1, hcz81_2, hcz81_3, hcz81_4, hfz81_0, hfz81_1, hfz81_2, hfz81_3, hfz81_4⟩ := cz5_ BK224.out; have hnb82 := NB222_216.out; have hnc82 := NB216_222.out; have hnb83 := NB222_217.out; have hnc83 := NB217_222.out; have hnb84 := NB222_220.out; have hnc84 := NB220_222.out; obtain ⟨hcz85_0, hcz85_1, hcz85_2, hcz85_3, hcz85_4, hfz85_0, hfz85_1, hfz85_2, hfz85_3, hfz85_4⟩ := cz5_ BK222.out))
         go_roundg k3
         case measure => have := HJ2.out; have := HK2.out; have := HK3.out; omega
         case rel => exact ⟨(wrap64 (x39_3 + 1)), (x221001_3), (u221001), ns_, H', ⟨by have := HJ2.out; have := HK2.out; have := HK3.out; omega⟩, ⟨by (with_reducible repeat (first | apply Kd.R_alloc | apply Kd.R_drewN | apply Kd.R_drew)); exact Kd.R_mono HO_221001.out (fun _ hk => hk.1)⟩, ⟨nb_ BK216.out⟩, ⟨nb_ BK217.out⟩, ⟨nb_ BK220.out⟩, ⟨nb_ BK222.out⟩, ⟨ne_ HB.out⟩⟩
        rw [if_pos c41] at H
        have c41b0 : (((rd_T36 l0_1 x39_3).f0) == ((rd_T36 l0_1 x31_2).f1)) = true := beq_iff_eq.mpr c41
        have c41b1 : (((rd_T36 l0_1 x39_3).f0) != ((rd_T36 l0_1 x31_2).f1)) = false := bne_eq_false_iff_eq.mpr c41
        clear c41
        by_cases c42 : t225 ≥ 0
        rotate_left
        ·rw [if_neg c42] at H
         have c42b0 : decide (0 ≤ t225) = false := decide_eq_false c42
         clear c42
         have H' := Aside0.mk H
         clear H
         have p223 : 0 ≤ (x39_3 : Int) := of_decide_eq_true nx_
         have q223 : x39_3 < (l0_1.length : Int) := of_decide_eq_true nx_
         obtain ⟨ad223, e223, hx223_0, hx223_1, hx223_2, hx223_3, hx223_4⟩ := at_T36 HR0_1.out x39_3 p223 q223
         obtain rfl : ad221 = ad223 := (by injection e223)
         replace hx223_0 := hb_ HB.out hx223_0
         replace hx223_1 := hb_ HB.out hx223_1
         replace hx223_2 := hb_ HB.out hx223_2
         replace hx223_3 := hb_ HB.out hx223_3
         replace hx223_4 := hb_ HB.out hx223_4
         replace p223 := eq_true p223
         replace q223 := eq_true q223
         go_wp2_with (first | ((with_reducible refine gate_dst (N := 10) rfl ?_); (try (refine gate_guard (by rfl) ?_; dsimp only)); refine bx_ 10 #[.int .i64 0, .int .i64 0, .int .i64 0, .int .i64 0, .int .i64 0] 36 ?_; intro gb224 hg w62 hbox hb; have BK224 := Aside0.mk (hbox); have GW224 := Aside0.mk (zs_ hg (ne_ HB.out)); have GE224 := Aside0.mk (zs_ hg (ne_ HB.out)); have NB216_224 := Aside0.mk (nl_ BK216.out hg); have NB224_216 := Aside0.mk (nm_ BK216.out hg); have NB217_224 := Aside0.mk (nl_ BK217.out hg); have NB224_217 := Aside0.mk (nm_ BK217.out hg); have NB220_224 := Aside0.mk (nl_ BK220.out hg); have NB224_220 := Aside0.mk (nm_ BK220.out hg); have NB222_224 := Aside0.mk (nl_ BK222.out hg); have NB224_222 := Aside0.mk (nm_ BK222.out hg); replace HO_221001 := Aside0.mk (Kd.R_below (Kd.R_elderB (nr_ HO_221001.out) gb224 (Nat.le_of_eq hg.symm)) hb); replace BK216 := kb_ BK216 hb; replace BK217 := kb_ BK217 hb; replace BK220 := kb_ BK220 hb; replace BK222 := kb_ BK222 hb; replace HB := kB_ HB hb; clear hb hbox hg; have hnb63 := NB224_216.out; have hnc63 := NB216_224.out; have hnb64 := NB224_217.out; have hnc64 := NB217_224.out; have hnb65 := NB224_220.out; have hnc65 := NB220_224.out; have hnb66 := NB224_222.out; have hnc66 := NB222_224.out; obtain ⟨hcz67_0, hcz67_1, hcz67_2, hcz67_3, hcz67_4, hfz67_0, hfz67_1, hfz67_2, hfz67_3, hfz67_4⟩ := cz5_ BK224.out) | ((with_reducible refine gate_callee (f := 16) rfl ?_); refine gl_ (some 47) Try.func16 #[.slice A1 l1.length c1, .int .i64 x31_2, .int .i64 x39_3] ?_; (with_reducible refine (impl_turning.calls k3 _ _ l1 x31_2 x39_3 t225 _ ?side1 ?side2 A40.out).mono ?_); (case side1 => exact Kd.C_below HR1.out (ne_ HB.out)); (case side2 => exact HC1.out); rintro e w68 ⟨rfl, hb⟩; refine ⟨_, rfl, ?_⟩; replace HO_221001 := Aside0.mk (Kd.R_below (by (with_reducible repeat (first | apply Kd.R_alloc | apply Kd.R_drewN | apply Kd.R_drew)); exact (Kd.R_mono (rf5_ (Kd.R_mono HO_221001.out (fun k_ hk => (⟨hk, hk.2⟩ : _ ∧ k_ ≠ gb224)))) (fun _ h_ => h_.1))) hb); replace BK216 := kf_ BK216 hb; replace BK217 := kf_ BK217 hb; replace BK220 := kf_ BK220 hb; replace BK222 := kf_ BK222 hb; replace BK224 := Aside0.mk (blk_below (g := gb224) (o := .cells #[.int .i64 ((rd_T36 l0_1 x39_3).f0), .int .i64 ((rd_T36 l0_1 x39_3).f1), .int .i64 ((rd_T36 l0_1 x39_3).f2), .int .i64 ((rd_T36 l0_1 x39_3).f3), .int .i64 ((rd_T36 l0_1 x39_3).f4)] 36 (0, 0)) (np_ BK224.out) hb); replace HB := kB_ HB hb; (try clear hb); (try clear hb2); (try clear hk); (try clear hi); obtain ⟨hcz69_0, hcz69_1, hcz69_2, hcz69_3, hcz69_4, hfz69_0, hfz69_1, hfz69_2, hfz69_3, hfz69_4⟩ := cz5_ BK224.out; have hnb70 := NB222_216.out; have hnc70 := NB216_222.out; have hnb71 := NB222_217.out; have hnc71 := NB217_222.out; have hnb72 := NB222_220.out; have hnc72 := NB220_222.out; obtain ⟨hcz73_0, hcz73_1, hcz73_2, hcz73_3, hcz73_4, hfz73_0, hfz73_1, hfz73_2, hfz73_3, hfz73_4⟩ := cz5_ BK222.out))
         go_roundg k3
         case measure => have := HJ2.out; have := HK2.out; have := HK3.out; omega
         case rel => exact ⟨(wrap64 (x39_3 + 1)), (x221001_3), (u221001), ns_, H', ⟨by have := HJ2.out; have := HK2.out; have := HK3.out; omega⟩, ⟨by (with_reducible repeat (first | apply Kd.R_alloc | apply Kd.R_drewN | apply Kd.R_drew)); exact Kd.R_mono HO_221001.out (fun _ hk => hk.1)⟩, ⟨nb_ BK216.out⟩, ⟨nb_ BK217.out⟩, ⟨nb_ BK220.out⟩, ⟨nb_ BK222.out⟩, ⟨ne_ HB.out⟩⟩
        rw [if_pos c42] at H
        have c42b0 : decide (0 ≤ t225) = true := decide_eq_true c42
        clear c42
        by_cases c43 : x221001_3.length < 3518437208883
        rotate_left
        ·rw [if_neg c43] at H
         exact absurd H (by simp)
        rw [if_pos c43] at H
        have LMc43 := Aside0.mk c43
        clear c43
        obtain ⟨y226, hy226⟩ : ∃ y_ : List (S36), y_ = (x221001_3 ++ [(⟨x31_2, x39_3, wrap64 (t225 + ((rd_T36 l0_1 x39_3).f2)), 0, 9⟩ : S36)]) := ⟨_, rfl⟩
        replace H : (impl_TurnNet.l1 k3 l1 x31_2 l0_1 (l0_1.length : Int) x31_2 l0_1 (l0_1.length : Int) (wrap64 (x39_3 + 1)) a0_0 l0_1 (l0_1.length : Int) y226 ((rd_T36 l0_1 x31_2).f0) ((rd_T36 l0_1 x31_2).f1) ((rd_T36 l0_1 x31_2).f2) ((rd_T36 l0_1 x31_2).f3) ((rd_T36 l0_1 x31_2).f4)) = some (r1, r2, r3) := by first | (rw [hy226]; with_reducible exact H) | (have H2_ := (Option.bind_some _ _).symm.trans H; rw [hy226]; with_reducible exact H2_) | (have H2_ := (Option.bind_some _ _).symm.trans H; with_reducible exact H2_) | with_reducible exact H | (rw [hy226]; exact H) | exact H
        have Ny226 := Aside0.mk hy226
        clear hy226
        have H' := Aside0.mk H
        clear H
        have p223 : 0 ≤ (x39_3 : Int) := of_decide_eq_true nx_
        have q223 : x39_3 < (l0_1.length : Int) := of_decide_eq_true nx_
        obtain ⟨ad223, e223, hx223_0, hx223_1, hx223_2, hx223_3, hx223_4⟩ := at_T36 HR0_1.out x39_3 p223 q223
        obtain rfl : ad221 = ad223 := (by injection e223)
        replace hx223_0 := hb_ HB.out hx223_0
        replace hx223_1 := hb_ HB.out hx223_1
        replace hx223_2 := hb_ HB.out hx223_2
        replace hx223_3 := hb_ HB.out hx223_3
        replace hx223_4 := hb_ HB.out hx223_4
        replace p223 := eq_true p223
        replace q223 := eq_true q223
        go_wp2_with (first | ((with_reducible refine gate_dst (N := 10) rfl ?_); (try (refine gate_guard (by rfl) ?_; dsimp only)); refine bx_ 10 #[.int .i64 0, .int .i64 0, .int .i64 0, .int .i64 0, .int .i64 0] 36 ?_; intro gb224 hg w44 hbox hb; have BK224 := Aside0.mk (hbox); have GW224 := Aside0.mk (zs_ hg (ne_ HB.out)); have GE224 := Aside0.mk (zs_ hg (ne_ HB.out)); have NB216_224 := Aside0.mk (nl_ BK216.out hg); have NB224_216 := Aside0.mk (nm_ BK216.out hg); have NB217_224 := Aside0.mk (nl_ BK217.out hg); have NB224_217 := Aside0.mk (nm_ BK217.out hg); have NB220_224 := Aside0.mk (nl_ BK220.out hg); have NB224_220 := Aside0.mk (nm_ BK220.out hg); have NB222_224 := Aside0.mk (nl_ BK222.out hg); have NB224_222 := Aside0.mk (nm_ BK222.out hg); replace HO_221001 := Aside0.mk (Kd.R_below (Kd.R_elderB (nr_ HO_221001.out) gb224 (Nat.le_of_eq hg.symm)) hb); replace BK216 := kb_ BK216 hb; replace BK217 := kb_ BK217 hb; replace BK220 := kb_ BK220 hb; replace BK222 := kb_ BK222 hb; replace HB := kB_ HB hb; clear hb hbox hg; have hnb45 := NB224_216.out; have hnc45 := NB216_224.out; have hnb46 := NB224_217.out; have hnc46 := NB217_224.out; have hnb47 := NB224_220.out; have hnc47 := NB220_224.out; have hnb48 := NB224_222.out; have hnc48 := NB222_224.out; obtain ⟨hcz49_0, hcz49_1, hcz49_2, hcz49_3, hcz49_4, hfz49_0, hfz49_1, hfz49_2, hfz49_3, hfz49_4⟩ := cz5_ BK224.out) | ((with_reducible refine gate_callee (f := 16) rfl ?_); refine gl_ (some 47) Try.func16 #[.slice A1 l1.length c1, .int .i64 x31_2, .int .i64 x39_3] ?_; (with_reducible refine (impl_turning.calls k3 _ _ l1 x31_2 x39_3 t225 _ ?side1 ?side2 A40.out).mono ?_); (case side1 => exact Kd.C_below HR1.out (ne_ HB.out)); (case side2 => exact HC1.out); rintro e w50 ⟨rfl, hb⟩; refine ⟨_, rfl, ?_⟩; replace HO_221001 := Aside0.mk (Kd.R_below (by (with_reducible repeat (first | apply Kd.R_alloc | apply Kd.R_drewN | apply Kd.R_drew)); exact (Kd.R_mono (rf5_ (Kd.R_mono HO_221001.out (fun k_ hk => (⟨hk, hk.2⟩ : _ ∧ k_ ≠ gb224)))) (fun _ h_ => h_.1))) hb); replace BK216 := kf_ BK216 hb; replace BK217 := kf_ BK217 hb; replace BK220 := kf_ BK220 hb; replace BK222 := kf_ BK222 hb; replace BK224 := Aside0.mk (blk_below (g := gb224) (o := .cells #[.int .i64 ((rd_T36 l0_1 x39_3).f0), .int .i64 ((rd_T36 l0_1 x39_3).f1), .int .i64 ((rd_T36 l0_1 x39_3).f2), .int .i64 ((rd_T36 l0_1 x39_3).f3), .int .i64 ((rd_T36 l0_1 x39_3).f4)] 36 (0, 0)) (np_ BK224.out) hb); replace HB := kB_ HB hb; (try clear hb); (try clear hb2); (try clear hk); (try clear hi); obtain ⟨hcz51_0, hcz51_1, hcz51_2, hcz51_3, hcz51_4, hfz51_0, hfz51_1, hfz51_2, hfz51_3, hfz51_4⟩ := cz5_ BK224.out; have hnb52 := NB222_216.out; have hnc52 := NB216_222.out; have hnb53 := NB222_217.out; have hnc53 := NB217_222.out; have hnb54 := NB222_220.out; have hnc54 := NB220_222.out; obtain ⟨hcz55_0, hcz55_1, hcz55_2, hcz55_3, hcz55_4, hfz55_0, hfz55_1, hfz55_2, hfz55_3, hfz55_4⟩ := cz5_ BK222.out; have hnb56 := NB220_216.out; have hnc56 := NB216_220.out; have hnb57 := NB220_217.out; have hnc57 := NB217_220.out; obtain ⟨hcz58_0, hcz58_1, hfz58_0, hfz58_1⟩ := cz2_ BK220.out) | ((with_reducible refine gate_builtin (b := .append) (xs := #[.tmp 58, .tmp 66]) rfl ?_); (try (refine gate_guard (by rfl) ?_; dsimp only)); at_builtin; refine Kd.R_append k36 (w0 := w) w.heap.size rfl (.tmp 58) (.tmp 66) 23 36 (.agg #[(.int .i64 0), (.int .i64 0), (.int .i64 0), (.int .i64 0), (.int .i64 0)]) 40 rfl Try.underlying23 info36 rfl (by decide) (by omega) u221001 x221001_3 (⟨x31_2, x39_3, wrap64 (t225 + ((rd_T36 l0_1 x39_3).f2)), 0, 9⟩ : S36) [.int .i64 x31_2, .int .i64 x39_3, .int .i64 (wrap64 (t225 + ((rd_T36 l0_1 x39_3).f2))), .int .i64 0, .int .i64 9] (fun k_ => k_ ≠ gb222 ∧ k_ ≠ gb224) (fun _ => False) rfl rfl ?aP (fun _ hk => hk.elim) ?aF ?aO ?aB ?aS ?aL ?_; (case aP => exact k36_mkM _ _ _ (⟨x31_2, x39_3, wrap64 (t225 + ((rd_T36 l0_1 x39_3).f2)), 0, 9⟩ : S36)); (case aB => exact (ne_ HB.out)); (case aF => exact (fun k_ hk => ⟨Kd.freshB (g := gb222) (o := .cells #[.int .i64 ((rd_T36 l0_1 x31_2).f0), .int .i64 ((rd_T36 l0_1 x31_2).f1), .int .i64 ((rd_T36 l0_1 x31_2).f2), .int .i64 ((rd_T36 l0_1 x31_2).f3), .int .i64 ((rd_T36 l0_1 x31_2).f4)] 36 (0, 0)) (nb_ BK222.out) k_ hk, Kd.freshB (g := gb224) (o := .cells #[.int .i64 ((rd_T36 l0_1 x39_3).f0), .int .i64 ((rd_T36 l0_1 x39_3).f1), .int .i64 ((rd_T36 l0_1 x39_3).f2), .int .i64 ((rd_T36 l0_1 x39_3).f3), .int .i64 ((rd_T36 l0_1 x39_3).f4)] 36 (0, 0)) (nb_ BK224.out) k_ hk⟩)); (case aO => exact (nr_ HO_221001.out)); (case aS => exact (below_size (ne_ HB.out))); (case aL => have := LMc43.out; omega); intro v227 w59 ho hb hg hat; rw [← Ny226.out] at ho; have HO228 := Aside0.mk (ho); replace BK216 := Aside0.mk (blk_grown (g := gb216) (o := .cells #[.int .i64 a0_0, .slice (some ad221) l0_1.length c0_1] 25 (0, 0)) (nb_ BK216.out) hg (Kd.R_ne HO_221001.out BK216.out (by decide))); replace BK217 := Aside0.mk (blk_grown (g := gb217) (o := .cells #[.int .i64 0, .slice none 0 0] 25 (0, 0)) (nb_ BK217.out) hg (Kd.R_ne HO_221001.out BK217.out (by decide))); replace BK220 := Aside0.mk (blk_grown (g := gb220) (o := .cells #[.int .i64 (l0_1.length : Int), u221001] 25 (0, 0)) (nb_ BK220.out) hg (Kd.R_ne HO_221001.out BK220.out (by decide))); replace BK222 := Aside0.mk (blk_grown (g := gb222) (o := .cells #[.int .i64 ((rd_T36 l0_1 x31_2).f0), .int .i64 ((rd_T36 l0_1 x31_2).f1), .int .i64 ((rd_T36 l0_1 x31_2).f2), .int .i64 ((rd_T36 l0_1 x31_2).f3), .int .i64 ((rd_T36 l0_1 x31_2).f4)] 36 (0, 0)) (nb_ BK222.out) hg (Kd.R_away HO_221001.out (fun _ hk => hk.1))); replace BK224 := Aside0.mk (blk_grown (g := gb224) (o := .cells #[.int .i64 ((rd_T36 l0_1 x39_3).f0), .int .i64 ((rd_T36 l0_1 x39_3).f1), .int .i64 ((rd_T36 l0_1 x39_3).f2), .int .i64 ((rd_T36 l0_1 x39_3).f3), .int .i64 ((rd_T36 l0_1 x39_3).f4)] 36 (0, 0)) (nb_ BK224.out) hg (Kd.R_away HO_221001.out (fun _ hk => hk.2))); replace HB := Aside0.mk (hb); clear HO_221001; clear ho hb hg hat; obtain ⟨Ao60, co60, eo60⟩ := Kd.R_slice HO228.out; subst eo60; obtain ⟨hcz61_0, hcz61_1, hfz61_0, hfz61_1⟩ := cz2_ BK220.out))
        go_roundg k3
        case measure => have := HJ2.out; have := HK2.out; have := HK3.out; omega
        case rel => exact ⟨(wrap64 (x39_3 + 1)), (y226), (.slice Ao60 y226.length co60), ns_, H', ⟨by have := HJ2.out; have := HK2.out; have := HK3.out; omega⟩, ⟨by (with_reducible repeat (first | apply Kd.R_alloc | apply Kd.R_drewN | apply Kd.R_drew)); exact Kd.R_mono (Kd.R_far (p := ⟨gb220, 1, none⟩) (Kd.R_types HO228.out BK220.out (by decide)) (fun _ hk => hk.2) (.slice Ao60 y226.length co60)) (fun _ hk => by first | exact hk.1.1 | trivial | simp_all)⟩, ⟨np_ BK216.out⟩, ⟨np_ BK217.out⟩, ⟨np_ BK220.out⟩, ⟨np_ BK222.out⟩, ⟨ne_ HB.out⟩⟩
end Go.Proofs.Ytfijdkjibjdbiaa.Print
