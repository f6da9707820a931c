-- Made by this session's own program (wip/patch_print.py, over the kit's print). Lean checks it.
import Derived.Test.YtppjelkljihdoaaDoorPrint0
import Derived.Test.YtppjelkljihdoaaDoorPrintE0
namespace Go.Proofs.YtppjelkljihdoaaDoor.Print
open Go.RowKit Go.Proofs.YtppjelkljihdoaaDoorW.PrintWords Go.Proofs.YtppjelkljihdoaaDoorW.PrintLast Go.Proofs.YtppjelkljihdoaaDoorW.PrintMore Go.Proofs.YtppjelkljihdoaaDoorX
attribute [local go_sem] max2_int min2_int max_two min_two max_three min_three max_four min_four   -- for this text's walks alone
set_option linter.unusedVariables false
set_option linter.unusedSimpArgs false

attribute [local go_sem high] eqA54
/-! ### laws_wkNet: function 13 -/
mutual
def laws_wkNet.j0 : Nat → Bool → Int → List (S54) → Int → List (S54) → Option (Bool)
  | 0, _, _, _, _, _ => none
  | k + 1, x19, x261000, x261001, x262000, x262001 => if x19 = true then (some false) else (laws_wkNet.l0 k 0 x261000 x261001 x262000 x262001)
def laws_wkNet.l0 : Nat → Int → Int → List (S54) → Int → List (S54) → Option (Bool)
  | 0, _, _, _, _, _ => none
  | k + 1, x5, x261000, x261001, x262000, x262001 => if x5 < (x261001.length : Int) then (if 0 ≤ x5 then (if x5 < (x262001.length : Int) then (if (!(((rd_T54 x261001 x5).f0) == ((rd_T54 x262001 x5).f0)) || (!(((rd_T54 x261001 x5).f1) == ((rd_T54 x262001 x5).f1)) || (!(((rd_T54 x261001 x5).f2) == ((rd_T54 x262001 x5).f2)) || (!(((rd_T54 x261001 x5).f3) == ((rd_T54 x262001 x5).f3)) || (!(((rd_T54 x261001 x5).f4) == ((rd_T54 x262001 x5).f4))))))) = true then (some false) else (laws_wkNet.l0 k (wrap64 (x5 + 1)) x261000 x261001 x262000 x262001)) else (none)) else (none)) else (some true)
end
def laws_wkNet.f (k : Nat) (a0_0 : Int) (l0_1 : List (S54)) (a1_0 : Int) (l1_1 : List (S54)) : Option (Bool) := if a0_0 = a1_0 then (laws_wkNet.j0 k ((l0_1.length : Int) != (l1_1.length : Int)) a0_0 l0_1 a1_0 l1_1) else (laws_wkNet.j0 k true a0_0 l0_1 a1_0 l1_1)
theorem laws_wkNet.mono_l : ∀ k, (∀ y0 y1 y2 y3 y4, LeO (laws_wkNet.j0 k y0 y1 y2 y3 y4) (laws_wkNet.j0 (k + 1) y0 y1 y2 y3 y4)) ∧ (∀ y0 y1 y2 y3 y4, LeO (laws_wkNet.l0 k y0 y1 y2 y3 y4) (laws_wkNet.l0 (k + 1) y0 y1 y2 y3 y4))
  | 0 => ⟨fun _ _ _ _ _ r h => by simp [laws_wkNet.j0] at h, fun _ _ _ _ _ r h => by simp [laws_wkNet.l0] at h⟩
  | k + 1 => by
    obtain ⟨ih0, ih1⟩ := laws_wkNet.mono_l k
    refine ⟨?_, ?_⟩
    · intro y0 y1 y2 y3 y4
      unfold laws_wkNet.j0
      repeat' first | (with_reducible first | exact ih0 _ _ _ _ _ | exact ih1 _ _ _ _ _ | exact LeO.refl _ | exact LeO.none _ | refine LeO.ite ?_ ?_ | refine LeO.bind ?_ (fun _ => ?_)) | exact ih0 _ _ _ _ _ | exact ih1 _ _ _ _ _ | exact LeO.none _ | refine LeO.ite ?_ ?_ | refine LeO.bind ?_ (fun _ => ?_)
    · intro y0 y1 y2 y3 y4
      unfold laws_wkNet.l0
      repeat' first | (with_reducible first | exact ih0 _ _ _ _ _ | exact ih1 _ _ _ _ _ | exact LeO.refl _ | exact LeO.none _ | refine LeO.ite ?_ ?_ | refine LeO.bind ?_ (fun _ => ?_)) | exact ih0 _ _ _ _ _ | exact ih1 _ _ _ _ _ | exact LeO.none _ | refine LeO.ite ?_ ?_ | refine LeO.bind ?_ (fun _ => ?_)
theorem laws_wkNet.mono : ∀ a0 a1 a2 a3 k, LeO (laws_wkNet.f k a0 a1 a2 a3) (laws_wkNet.f (k + 1) a0 a1 a2 a3) := by
  intro a0 a1 a2 a3 k
  obtain ⟨ih0, ih1⟩ := laws_wkNet.mono_l k
  unfold laws_wkNet.f
  repeat' first | (with_reducible first | exact ih0 _ _ _ _ _ | exact ih1 _ _ _ _ _ | exact LeO.refl _ | exact LeO.none _ | refine LeO.ite ?_ ?_ | refine LeO.bind ?_ (fun _ => ?_)) | exact ih0 _ _ _ _ _ | exact ih1 _ _ _ _ _ | exact LeO.none _ | refine LeO.ite ?_ ?_ | refine LeO.bind ?_ (fun _ => ?_)
set_option maxHeartbeats 200000000 in
set_option maxRecDepth 100000 in
theorem laws_wkNet.calls (k : Nat) (a0_0 : Int) (A0_1 : Option Addr) (c0_1 : Nat) (l0_1 : List (S54)) (a1_0 : Int) (A1_1 : Option Addr) (c1_1 : Nat) (l1_1 : List (S54)) (r : Bool) (w : World) (hr0_1 : Kd.C k54 w A0_1 l0_1.length l0_1) (hc0_1 : l0_1.length ≤ c0_1) (hr1_1 : Kd.C k54 w A1_1 l1_1.length l1_1) (hc1_1 : l1_1.length ≤ c1_1) (h : laws_wkNet.f k a0_0 l0_1 a1_0 l1_1 = some r) :
    Calls Tryd.prog 13 #[.agg #[.int .i64 a0_0, .slice A0_1 l0_1.length c0_1], .agg #[.int .i64 a1_0, .slice A1_1 l1_1.length c1_1]] w fun e w' => e = .returned (.bool r) ∧ Below w.heap.size w w' := by
  have hu25 := Tryd.underlying25
  have hu54 := Tryd.underlying54
  have HR0_1 := Aside0.mk hr0_1
  have HC0_1 := Aside0.mk hc0_1
  clear hr0_1 hc0_1
  have HR1_1 := Aside0.mk hr1_1
  have HC1_1 := Aside0.mk hc1_1
  clear hr1_1 hc1_1
  have HB := Aside0.mk (Below.refl w.heap.size w)
  have H : (if a0_0 = a1_0 then (laws_wkNet.j0 k ((l0_1.length : Int) != (l1_1.length : Int)) a0_0 l0_1 a1_0 l1_1) else (laws_wkNet.j0 k true a0_0 l0_1 a1_0 l1_1)) = some r := h
  clear h
  have HC3 := Aside0.mk H
  clear H
  go_enter Tryd.func13, Tryd.ntmps13
  go_upto_region 1 with (first | ((with_reducible refine gate_dst (N := 2) rfl ?_); (try (refine gate_guard (by rfl) ?_; dsimp only)); refine bx_ 2 #[.int .i64 a0_0, .slice A0_1 l0_1.length c0_1] 25 ?_; intro gb260 hg w4 hbox hb; have BK260 := Aside0.mk (hbox); have GW260 := Aside0.mk (zs_ hg (ne_ HB.out)); have GE260 := Aside0.mk (zs_ hg (ne_ HB.out)); replace HB := kB_ HB hb; clear hb hbox hg) | ((with_reducible refine gate_dst (N := 3) rfl ?_); (try (refine gate_guard (by rfl) ?_; dsimp only)); refine bx_ 3 #[.int .i64 a1_0, .slice A1_1 l1_1.length c1_1] 25 ?_; intro gb261 hg w5 hbox hb; have BK261 := Aside0.mk (hbox); have GW261 := Aside0.mk (zs_ hg (ne_ HB.out)); have GE261 := Aside0.mk (zs_ hg (ne_ HB.out)); have NB260_261 := Aside0.mk (nl_ BK260.out hg); have NB261_260 := Aside0.mk (nm_ BK260.out hg); replace BK260 := kb_ BK260 hb; replace HB := kB_ HB hb; clear hb hbox hg))
  repeat (go_quiet (first | ((with_reducible refine gate_dst (N := 2) rfl ?_); (try (refine gate_guard (by rfl) ?_; dsimp only)); refine bx_ 2 #[.int .i64 a0_0, .slice A0_1 l0_1.length c0_1] 25 ?_; intro gb260 hg w4 hbox hb; have BK260 := Aside0.mk (hbox); have GW260 := Aside0.mk (zs_ hg (ne_ HB.out)); have GE260 := Aside0.mk (zs_ hg (ne_ HB.out)); replace HB := kB_ HB hb; clear hb hbox hg) | ((with_reducible refine gate_dst (N := 3) rfl ?_); (try (refine gate_guard (by rfl) ?_; dsimp only)); refine bx_ 3 #[.int .i64 a1_0, .slice A1_1 l1_1.length c1_1] 25 ?_; intro gb261 hg w5 hbox hb; have BK261 := Aside0.mk (hbox); have GW261 := Aside0.mk (zs_ hg (ne_ HB.out)); have GE261 := Aside0.mk (zs_ hg (ne_ HB.out)); have NB260_261 := Aside0.mk (nl_ BK260.out hg); have NB261_260 := Aside0.mk (nm_ BK260.out hg); replace BK260 := kb_ BK260 hb; replace HB := kB_ HB hb; clear hb hbox hg)); go_upto_region 1 with (first | ((with_reducible refine gate_dst (N := 2) rfl ?_); (try (refine gate_guard (by rfl) ?_; dsimp only)); refine bx_ 2 #[.int .i64 a0_0, .slice A0_1 l0_1.length c0_1] 25 ?_; intro gb260 hg w4 hbox hb; have BK260 := Aside0.mk (hbox); have GW260 := Aside0.mk (zs_ hg (ne_ HB.out)); have GE260 := Aside0.mk (zs_ hg (ne_ HB.out)); replace HB := kB_ HB hb; clear hb hbox hg) | ((with_reducible refine gate_dst (N := 3) rfl ?_); (try (refine gate_guard (by rfl) ?_; dsimp only)); refine bx_ 3 #[.int .i64 a1_0, .slice A1_1 l1_1.length c1_1] 25 ?_; intro gb261 hg w5 hbox hb; have BK261 := Aside0.mk (hbox); have GW261 := Aside0.mk (zs_ hg (ne_ HB.out)); have GE261 := Aside0.mk (zs_ hg (ne_ HB.out)); have NB260_261 := Aside0.mk (nl_ BK260.out hg); have NB261_260 := Aside0.mk (nm_ BK260.out hg); replace BK260 := kb_ BK260 hb; replace HB := kB_ HB hb; clear hb hbox hg)))
  (try simp only [Act.put, List.setIfInBounds_toArray, List.set_cons_zero, List.set_cons_succ])
  go_cut [19] (fun v19 wc => ∃ (kq : Nat) (x19_2 : Bool), v19 = .bool x19_2 ∧ Aside0 (laws_wkNet.j0 kq x19_2 a0_0 l0_1 a1_0 l1_1 = some r) ∧ Aside0 (kq ≤ k) ∧ Aside0 (wc.heap[gb260]? = some (.cells #[.int .i64 a0_0, (.slice A0_1 l0_1.length c0_1)] 25 (0, 0))) ∧ Aside0 (wc.heap[gb261]? = some (.cells #[.int .i64 a1_0, (.slice A1_1 l1_1.length c1_1)] 25 (0, 0))) ∧ Aside0 (Below w.heap.size w wc))
  case first =>
   have H := HC3.out
   clear HC3
   by_cases c6 : a0_0 = a1_0
   rotate_left
   ·rw [if_neg c6] at H
    have c6b0 : (a0_0 == a1_0) = false := beq_eq_false_iff_ne.mpr c6
    have c6b1 : (a0_0 != a1_0) = true := bne_iff_ne.mpr c6
    (first | rw [c6b0] | (simp only [i64_w, i32_w]; rw [c6b0]) | skip)
    have H' := Aside0.mk H
    clear H
    have hnb10 := NB260_261.out
    have hnc10 := NB261_260.out
    obtain ⟨hcz11_0, hcz11_1, hfz11_0, hfz11_1⟩ := cz2_ BK260.out
    obtain ⟨hcz12_0, hcz12_1, hfz12_0, hfz12_1⟩ := cz2_ BK261.out
    go_wp2
    repeat (go_quiet (fail); try go_wp2)
    go_meet
    case rel => exact ⟨_, (true), ns_, H', ⟨by first | omega | exact Nat.le_refl _⟩, ⟨nb_ BK260.out⟩, ⟨nb_ BK261.out⟩, ⟨ne_ HB.out⟩⟩
   rw [if_pos c6] at H
   have c6b0 : (a0_0 == a1_0) = true := beq_iff_eq.mpr c6
   have c6b1 : (a0_0 != a1_0) = false := bne_eq_false_iff_eq.mpr c6
   clear c6
   (first | rw [c6b0] | (simp only [i64_w, i32_w]; rw [c6b0]) | skip)
   have H' := Aside0.mk H
   clear H
   have hnb7 := NB260_261.out
   have hnc7 := NB261_260.out
   obtain ⟨hcz8_0, hcz8_1, hfz8_0, hfz8_1⟩ := cz2_ BK260.out
   obtain ⟨hcz9_0, hcz9_1, hfz9_0, hfz9_1⟩ := cz2_ BK261.out
   go_wp2
   repeat (go_quiet (fail); try go_wp2)
   go_meet
   case rel => exact ⟨_, (((l0_1.length : Int) != (l1_1.length : Int))), ns_, H', ⟨by first | omega | exact Nat.le_refl _⟩, ⟨nb_ BK260.out⟩, ⟨nb_ BK261.out⟩, ⟨ne_ HB.out⟩⟩
  case rest =>
   clear HC3
   obtain ⟨kq, x19_2, rfl, HA, HJ2, BK260, BK261, HB⟩ := hcut
   cases kq with
   | zero => exact absurd HA.out (by simp [laws_wkNet.j0])
   | succ kj2 =>
    have H := HA.out
    clear HA
    simp only [laws_wkNet.j0] at H
    by_cases c13 : x19_2 = true
    ·subst c13
     have H1 : (some false) = some r := by rw [if_pos rfl] at H; exact H
     clear H
     have H := H1
     clear H1
     obtain rfl := Option.some.inj H
     go_wp2
     repeat (go_quiet (fail); try go_wp2)
     go_ret
     exact ⟨nw_, ne_ HB.out⟩
    replace c13 := Bool.eq_false_iff.mpr c13
    subst c13
    have H1 : (laws_wkNet.l0 kj2 0 a0_0 l0_1 a1_0 l1_1) = some r := by rw [if_neg (show ¬ (false = true) by decide)] at H; exact H
    clear H
    have H := H1
    clear H1
    have H' := Aside0.mk H
    clear H
    go_wp2
    repeat (go_quiet (fail); try go_wp2)
    go_loopg [5] kj2 (fun kq v5 w' => ∃ (x5_2 : Int), v5 = .int .i64 x5_2 ∧ Aside0 (laws_wkNet.l0 kq x5_2 a0_0 l0_1 a1_0 l1_1 = some r) ∧ Aside0 (kq ≤ kj2) ∧ Aside0 (w'.heap[gb260]? = some (.cells #[.int .i64 a0_0, (.slice A0_1 l0_1.length c0_1)] 25 (0, 0))) ∧ Aside0 (w'.heap[gb261]? = some (.cells #[.int .i64 a1_0, (.slice A1_1 l1_1.length c1_1)] 25 (0, 0))) ∧ Aside0 (Below w.heap.size w w'))
    case atStart => exact ⟨(0), ns_, H', ⟨Nat.le_refl _⟩, ⟨nb_ BK260.out⟩, ⟨nb_ BK261.out⟩, ⟨ne_ HB.out⟩⟩
    case round =>
     clear H'
     try clear c13
     obtain ⟨x5_2, rfl, HA, HK2, BK260, BK261, HB⟩ := hrel
     cases gk with
     | zero => exact absurd HA.out (by simp [laws_wkNet.l0])
     | succ k2 =>
      have H := HA.out
      clear HA
      simp only [laws_wkNet.l0] at H
      by_cases c14 : x5_2 < (l0_1.length : Int)
      rotate_left
      ·rw [if_neg c14] at H
       have c14b0 : decide (x5_2 < (l0_1.length : Int)) = false := decide_eq_false c14
       clear c14
       obtain rfl := Option.some.inj H
       have hnb24 := NB260_261.out
       have hnc24 := NB261_260.out
       obtain ⟨hcz25_0, hcz25_1, hfz25_0, hfz25_1⟩ := cz2_ BK260.out
       go_wp2
       repeat (go_quiet (fail); try go_wp2)
       go_ret
       exact ⟨nw_, ne_ HB.out⟩

      rw [if_pos c14] at H
      have c14b0 : decide (x5_2 < (l0_1.length : Int)) = true := decide_eq_true c14
      clear c14
      by_cases c15 : 0 ≤ x5_2
      rotate_left
      ·rw [if_neg c15] at H
       exact absurd H (by simp)
      rw [if_pos c15] at H
      have c15b0 : decide (0 ≤ x5_2) = true := decide_eq_true c15
      clear c15
      by_cases c16 : x5_2 < (l1_1.length : Int)
      rotate_left
      ·rw [if_neg c16] at H
       exact absurd H (by simp)
      rw [if_pos c16] at H
      have c16b0 : decide (x5_2 < (l1_1.length : Int)) = true := decide_eq_true c16
      clear c16
      by_cases c17 : (!(((rd_T54 l0_1 x5_2).f0) == ((rd_T54 l1_1 x5_2).f0)) || (!(((rd_T54 l0_1 x5_2).f1) == ((rd_T54 l1_1 x5_2).f1)) || (!(((rd_T54 l0_1 x5_2).f2) == ((rd_T54 l1_1 x5_2).f2)) || (!(((rd_T54 l0_1 x5_2).f3) == ((rd_T54 l1_1 x5_2).f3)) || (!(((rd_T54 l0_1 x5_2).f4) == ((rd_T54 l1_1 x5_2).f4))))))) = true
      ·rw [if_pos c17] at H
       have c17b0 : (!(((rd_T54 l0_1 x5_2).f0) == ((rd_T54 l1_1 x5_2).f0)) || (!(((rd_T54 l0_1 x5_2).f1) == ((rd_T54 l1_1 x5_2).f1)) || (!(((rd_T54 l0_1 x5_2).f2) == ((rd_T54 l1_1 x5_2).f2)) || (!(((rd_T54 l0_1 x5_2).f3) == ((rd_T54 l1_1 x5_2).f3)) || (!(((rd_T54 l0_1 x5_2).f4) == ((rd_T54 l1_1 x5_2).f4))))))) = true := c17
       clear c17
       obtain rfl := Option.some.inj H
       have hnb18 := NB260_261.out
       have hnc18 := NB261_260.out
       obtain ⟨hcz19_0, hcz19_1, hfz19_0, hfz19_1⟩ := cz2_ BK260.out
       have p262 : 0 ≤ (x5_2 : Int) := of_decide_eq_true nx_
       have q262 : x5_2 < (l0_1.length : Int) := of_decide_eq_true nx_
       obtain ⟨ad262, e262, hx262_0, hx262_1, hx262_2, hx262_3, hx262_4⟩ := at_T54 HR0_1.out x5_2 p262 q262
       cases e262
       replace hx262_0 := hb_ HB.out hx262_0
       replace hx262_1 := hb_ HB.out hx262_1
       replace hx262_2 := hb_ HB.out hx262_2
       replace hx262_3 := hb_ HB.out hx262_3
       replace hx262_4 := hb_ HB.out hx262_4
       replace p262 := eq_true p262
       replace q262 := eq_true q262
       obtain ⟨hcz20_0, hcz20_1, hfz20_0, hfz20_1⟩ := cz2_ BK261.out
       have p263 : 0 ≤ (x5_2 : Int) := of_decide_eq_true nx_
       have q263 : x5_2 < (l1_1.length : Int) := of_decide_eq_true nx_
       obtain ⟨ad263, e263, hx263_0, hx263_1, hx263_2, hx263_3, hx263_4⟩ := at_T54 HR1_1.out x5_2 p263 q263
       cases e263
       replace hx263_0 := hb_ HB.out hx263_0
       replace hx263_1 := hb_ HB.out hx263_1
       replace hx263_2 := hb_ HB.out hx263_2
       replace hx263_3 := hb_ HB.out hx263_3
       replace hx263_4 := hb_ HB.out hx263_4
       replace p263 := eq_true p263
       replace q263 := eq_true q263
       go_wp2
       repeat (go_quiet (fail); try go_wp2)
       go_ret
       exact ⟨nw_, ne_ HB.out⟩
      rw [if_neg c17] at H
      have c17b0 : (!(((rd_T54 l0_1 x5_2).f0) == ((rd_T54 l1_1 x5_2).f0)) || (!(((rd_T54 l0_1 x5_2).f1) == ((rd_T54 l1_1 x5_2).f1)) || (!(((rd_T54 l0_1 x5_2).f2) == ((rd_T54 l1_1 x5_2).f2)) || (!(((rd_T54 l0_1 x5_2).f3) == ((rd_T54 l1_1 x5_2).f3)) || (!(((rd_T54 l0_1 x5_2).f4) == ((rd_T54 l1_1 x5_2).f4))))))) = false := by simpa using c17
      clear c17
      have H' := Aside0.mk H
      clear H
      have hnb21 := NB260_261.out
      have hnc21 := NB261_260.out
      obtain ⟨hcz22_0, hcz22_1, hfz22_0, hfz22_1⟩ := cz2_ BK260.out
      have p262 : 0 ≤ (x5_2 : Int) := of_decide_eq_true nx_
      have q262 : x5_2 < (l0_1.length : Int) := of_decide_eq_true nx_
      obtain ⟨ad262, e262, hx262_0, hx262_1, hx262_2, hx262_3, hx262_4⟩ := at_T54 HR0_1.out x5_2 p262 q262
      cases e262
      replace hx262_0 := hb_ HB.out hx262_0
      replace hx262_1 := hb_ HB.out hx262_1
      replace hx262_2 := hb_ HB.out hx262_2
      replace hx262_3 := hb_ HB.out hx262_3
      replace hx262_4 := hb_ HB.out hx262_4
      replace p262 := eq_true p262
      replace q262 := eq_true q262
      obtain ⟨hcz23_0, hcz23_1, hfz23_0, hfz23_1⟩ := cz2_ BK261.out
      have p263 : 0 ≤ (x5_2 : Int) := of_decide_eq_true nx_
      have q263 : x5_2 < (l1_1.length : Int) := of_decide_eq_true nx_
      obtain ⟨ad263, e263, hx263_0, hx263_1, hx263_2, hx263_3, hx263_4⟩ := at_T54 HR1_1.out x5_2 p263 q263
      cases e263
      replace hx263_0 := hb_ HB.out hx263_0
      replace hx263_1 := hb_ HB.out hx263_1
      replace hx263_2 := hb_ HB.out hx263_2
      replace hx263_3 := hb_ HB.out hx263_3
      replace hx263_4 := hb_ HB.out hx263_4
      replace p263 := eq_true p263
      replace q263 := eq_true q263
      go_wp2
      repeat (go_quiet (fail); try go_wp2)
      go_roundg k2
      case measure => have := HJ2.out; have := HK2.out; omega
      case rel => exact ⟨(wrap64 (x5_2 + 1)), ns_, H', ⟨by have := HJ2.out; have := HK2.out; omega⟩, ⟨nb_ BK260.out⟩, ⟨nb_ BK261.out⟩, ⟨ne_ HB.out⟩⟩
end Go.Proofs.YtppjelkljihdoaaDoor.Print
