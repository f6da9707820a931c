-- Made by this session's own program (wip/patch_print.py, over the kit's print). Lean checks it.
import Derived.Test.YtppjelkljihdoaaDoorPrint0
import Derived.Test.YtppjelkljihdoaaDoorPrintB
namespace Go.Proofs.YtppjelkljihdoaaDoor.Print
open Go.RowKit Go.Proofs.YtppjelkljihdoaaDoorW.PrintWords Go.Proofs.YtppjelkljihdoaaDoorW.PrintLast Go.Proofs.YtppjelkljihdoaaDoorW.PrintMore Go.Proofs.YtppjelkljihdoaaDoorX
attribute [local go_sem] max2_int min2_int max_two min_two max_three min_three max_four min_four   -- for this text's walks alone
set_option linter.unusedVariables false
set_option linter.unusedSimpArgs false

/-! ### spec_l1Ok: function 27 -/
def spec_l1Ok.l0 : Nat → Int → Int → List (S54) → Option (Bool)
  | 0, _, _, _ => none
  | k + 1, x3, x208000, x208001 => if x3 < (x208001.length : Int) then (if 0 ≤ x3 then ((spec_l1In.f ((rd_T54 x208001 x3).f0) 0 (wrap64 (x208000 - 1))).bind fun t211 => (if t211 = true then ((spec_l1In.f ((rd_T54 x208001 x3).f1) 0 (wrap64 (x208000 - 1))).bind fun t212 => (if t212 = true then (if ((rd_T54 x208001 x3).f0) = ((rd_T54 x208001 x3).f1) then (some false) else ((spec_l1In.f ((rd_T54 x208001 x3).f2) 0 99).bind fun t213 => (if t213 = true then ((spec_l1In.f ((rd_T54 x208001 x3).f3) 0 99).bind fun t214 => (if t214 = true then ((spec_l1In.f ((rd_T54 x208001 x3).f4) 0 9).bind fun t215 => (if t215 = true then (spec_l1Ok.l0 k (wrap64 (x3 + 1)) x208000 x208001) else (some false))) else (some false))) else (some false)))) else (some false))) else (some false))) else (none)) else ((spec_l1In.f x208000 1 8).bind fun t208 => (if t208 = true then (some (decide ((x208001.length : Int) ≤ 16))) else (some false)))
def spec_l1Ok.f (k : Nat) (a0_0 : Int) (l0_1 : List (S54)) : Option (Bool) := spec_l1Ok.l0 k 0 a0_0 l0_1
theorem spec_l1Ok.mono_l : ∀ k, (∀ y0 y1 y2, LeO (spec_l1Ok.l0 k y0 y1 y2) (spec_l1Ok.l0 (k + 1) y0 y1 y2))
  | 0 => fun _ _ _ r h => by simp [spec_l1Ok.l0] at h
  | k + 1 => by
    have ih0 := spec_l1Ok.mono_l k
    · intro y0 y1 y2
      unfold spec_l1Ok.l0
      repeat' first | (with_reducible first | exact ih0 _ _ _ | exact LeO.refl _ | exact LeO.none _ | refine LeO.ite ?_ ?_ | refine LeO.bind ?_ (fun _ => ?_)) | exact ih0 _ _ _ | exact LeO.none _ | refine LeO.ite ?_ ?_ | refine LeO.bind ?_ (fun _ => ?_)
theorem spec_l1Ok.mono : ∀ a0 a1 k, LeO (spec_l1Ok.f k a0 a1) (spec_l1Ok.f (k + 1) a0 a1) := by
  intro a0 a1 k
  have ih0 := spec_l1Ok.mono_l k
  unfold spec_l1Ok.f
  repeat' first | (with_reducible first | exact ih0 _ _ _ | exact LeO.refl _ | exact LeO.none _ | refine LeO.ite ?_ ?_ | refine LeO.bind ?_ (fun _ => ?_)) | exact ih0 _ _ _ | exact LeO.none _ | refine LeO.ite ?_ ?_ | refine LeO.bind ?_ (fun _ => ?_)
set_option maxHeartbeats 200000000 in
set_option maxRecDepth 100000 in
theorem spec_l1Ok.calls (k : Nat) (a0_0 : Int) (A0_1 : Option Addr) (c0_1 : Nat) (l0_1 : List (S54)) (r : Bool) (w : World) (hr0_1 : Kd.C k54 w A0_1 l0_1.length l0_1) (hc0_1 : l0_1.length ≤ c0_1) (h : spec_l1Ok.f k a0_0 l0_1 = some r) :
    Calls Tryd.prog 27 #[.agg #[.int .i64 a0_0, .slice A0_1 l0_1.length c0_1]] w fun e w' => e = .returned (.bool r) ∧ Below w.heap.size w w' := by
  have hu25 := Tryd.underlying25
  have hu54 := Tryd.underlying54
  have HR0_1 := Aside0.mk hr0_1
  have HC0_1 := Aside0.mk hc0_1
  clear hr0_1 hc0_1
  have HB := Aside0.mk (Below.refl w.heap.size w)
  have H : (spec_l1Ok.l0 k 0 a0_0 l0_1) = some r := h
  clear h
  have H' := Aside0.mk H
  clear H
  go_enter Tryd.func27, Tryd.ntmps27
  go_wp2_with (first | ((with_reducible refine gate_dst (N := 1) rfl ?_); (try (refine gate_guard (by rfl) ?_; dsimp only)); refine bx_ 1 #[.int .i64 a0_0, .slice A0_1 l0_1.length c0_1] 25 ?_; intro gb207 hg w2 hbox hb; have BK207 := Aside0.mk (hbox); have GW207 := Aside0.mk (zs_ hg (ne_ HB.out)); have GE207 := Aside0.mk (zs_ hg (ne_ HB.out)); replace HB := kB_ HB hb; clear hb hbox hg))
  go_loopg [3] k (fun kq v3 w' => ∃ (x3_1 : Int), v3 = .int .i64 x3_1 ∧ Aside0 (spec_l1Ok.l0 kq x3_1 a0_0 l0_1 = some r) ∧ Aside0 (kq ≤ k) ∧ Aside0 (w'.heap[gb207]? = some (.cells #[.int .i64 a0_0, (.slice A0_1 l0_1.length c0_1)] 25 (0, 0))) ∧ Aside0 (Below w.heap.size w w'))
  case atStart => exact ⟨(0), ns_, H', ⟨Nat.le_refl _⟩, ⟨nb_ BK207.out⟩, ⟨ne_ HB.out⟩⟩
  case round =>
   clear H'
   obtain ⟨x3_1, rfl, HA, HK1, BK207, HB⟩ := hrel
   cases gk with
   | zero => exact absurd HA.out (by simp [spec_l1Ok.l0])
   | succ k1 =>
    have H := HA.out
    clear HA
    simp only [spec_l1Ok.l0] at H
    by_cases c3 : x3_1 < (l0_1.length : Int)
    rotate_left
    ·rw [if_neg c3] at H
     have c3b0 : decide (x3_1 < (l0_1.length : Int)) = false := decide_eq_false c3
     clear c3
     replace H := Option.bind_eq_some_iff.mp H
     obtain ⟨t208, A510, H⟩ := H
     replace H : (if t208 = true then (some (decide ((l0_1.length : Int) ≤ 16))) else (some false)) = some r := H
     have A51 := Aside0.mk A510
     clear A510
     by_cases c52 : t208 = true
     ·subst c52
      have H1 : (some (decide ((l0_1.length : Int) ≤ 16))) = some r := by rw [if_pos rfl] at H; exact H
      clear H
      have H := H1
      clear H1
      obtain rfl := Option.some.inj H
      obtain ⟨hcz53_0, hcz53_1, hfz53_0, hfz53_1⟩ := cz2_ BK207.out
      go_wp2_with (first | ((with_reducible refine gate_callee (f := 52) rfl ?_); refine gl_ (some 60) Tryd.func52 #[.int .i64 a0_0, .int .i64 1, .int .i64 8] ?_; (with_reducible refine (spec_l1In.calls a0_0 1 8 true _ A51.out).mono ?_); rintro e w' ⟨rfl, ⟨nd, rfl⟩⟩; refine ⟨_, rfl, ?_⟩))
      go_ret
      exact ⟨nw_, ne_ HB.out⟩
     replace c52 := Bool.eq_false_iff.mpr c52
     subst c52
     have H1 : (some false) = some r := by rw [if_neg (show ¬ (false = true) by decide)] at H; exact H
     clear H
     have H := H1
     clear H1
     obtain rfl := Option.some.inj H
     obtain ⟨hcz54_0, hcz54_1, hfz54_0, hfz54_1⟩ := cz2_ BK207.out
     go_wp2_with (first | ((with_reducible refine gate_callee (f := 52) rfl ?_); refine gl_ (some 60) Tryd.func52 #[.int .i64 a0_0, .int .i64 1, .int .i64 8] ?_; (with_reducible refine (spec_l1In.calls a0_0 1 8 false _ A51.out).mono ?_); rintro e w' ⟨rfl, ⟨nd, rfl⟩⟩; refine ⟨_, rfl, ?_⟩))
     go_ret
     exact ⟨nw_, ne_ HB.out⟩

    rw [if_pos c3] at H
    have c3b0 : decide (x3_1 < (l0_1.length : Int)) = true := decide_eq_true c3
    clear c3
    by_cases c4 : 0 ≤ x3_1
    rotate_left
    ·rw [if_neg c4] at H
     exact absurd H (by simp)
    rw [if_pos c4] at H
    have c4b0 : decide (0 ≤ x3_1) = true := decide_eq_true c4
    clear c4
    replace H := Option.bind_eq_some_iff.mp H
    obtain ⟨t211, A50, H⟩ := H
    try dsimp only at H
    have A5 := Aside0.mk A50
    clear A50
    by_cases c6 : t211 = true
    rotate_left
    ·replace c6 := Bool.eq_false_iff.mpr c6
     subst c6
     have H1 : (some false) = some r := by rw [if_neg (show ¬ (false = true) by decide)] at H; exact H
     clear H
     have H := H1
     clear H1
     obtain rfl := Option.some.inj H
     obtain ⟨hcz46_0, hcz46_1, hfz46_0, hfz46_1⟩ := cz2_ BK207.out
     have p209 : 0 ≤ (x3_1 : Int) := of_decide_eq_true nx_
     have q209 : x3_1 < (l0_1.length : Int) := of_decide_eq_true nx_
     obtain ⟨ad209, e209, hx209_0, hx209_1, hx209_2, hx209_3, hx209_4⟩ := at_T54 HR0_1.out x3_1 p209 q209
     cases e209
     replace hx209_0 := hb_ HB.out hx209_0
     replace hx209_1 := hb_ HB.out hx209_1
     replace hx209_2 := hb_ HB.out hx209_2
     replace hx209_3 := hb_ HB.out hx209_3
     replace hx209_4 := hb_ HB.out hx209_4
     replace p209 := eq_true p209
     replace q209 := eq_true q209
     go_wp2_with (first | ((with_reducible refine gate_dst (N := 4) rfl ?_); (try (refine gate_guard (by rfl) ?_; dsimp only)); refine bx_ 4 #[.int .i64 0, .int .i64 0, .int .i64 0, .int .i64 0, .int .i64 0] 54 ?_; intro gb210 hg w47 hbox hb; have BK210 := Aside0.mk (hbox); have GW210 := Aside0.mk (zs_ hg (ne_ HB.out)); have GE210 := Aside0.mk (zs_ hg (ne_ HB.out)); have NB207_210 := Aside0.mk (nl_ BK207.out hg); have NB210_207 := Aside0.mk (nm_ BK207.out hg); replace BK207 := kb_ BK207 hb; replace HB := kB_ HB hb; clear hb hbox hg; have hnb48 := NB210_207.out; have hnc48 := NB207_210.out; obtain ⟨hcz49_0, hcz49_1, hcz49_2, hcz49_3, hcz49_4, hfz49_0, hfz49_1, hfz49_2, hfz49_3, hfz49_4⟩ := cz5_ BK210.out; obtain ⟨hcz50_0, hcz50_1, hfz50_0, hfz50_1⟩ := cz2_ BK207.out) | ((with_reducible refine gate_callee (f := 52) rfl ?_); refine gl_ (some 22) Tryd.func52 #[.int .i64 ((rd_T54 l0_1 x3_1).f0), .int .i64 0, .int .i64 (wrap64 (a0_0 - 1))] ?_; (with_reducible refine (spec_l1In.calls ((rd_T54 l0_1 x3_1).f0) 0 (wrap64 (a0_0 - 1)) false _ A5.out).mono ?_); rintro e w' ⟨rfl, ⟨nd, rfl⟩⟩; refine ⟨_, rfl, ?_⟩))
     go_ret
     exact ⟨nw_, ne_ HB.out⟩
    subst c6
    rw [if_pos rfl] at H
    replace H := Option.bind_eq_some_iff.mp H
    obtain ⟨t212, A70, H⟩ := H
    try dsimp only at H
    have A7 := Aside0.mk A70
    clear A70
    by_cases c8 : t212 = true
    rotate_left
    ·replace c8 := Bool.eq_false_iff.mpr c8
     subst c8
     have H1 : (some false) = some r := by rw [if_neg (show ¬ (false = true) by decide)] at H; exact H
     clear H
     have H := H1
     clear H1
     obtain rfl := Option.some.inj H
     obtain ⟨hcz41_0, hcz41_1, hfz41_0, hfz41_1⟩ := cz2_ BK207.out
     have p209 : 0 ≤ (x3_1 : Int) := of_decide_eq_true nx_
     have q209 : x3_1 < (l0_1.length : Int) := of_decide_eq_true nx_
     obtain ⟨ad209, e209, hx209_0, hx209_1, hx209_2, hx209_3, hx209_4⟩ := at_T54 HR0_1.out x3_1 p209 q209
     cases e209
     replace hx209_0 := hb_ HB.out hx209_0
     replace hx209_1 := hb_ HB.out hx209_1
     replace hx209_2 := hb_ HB.out hx209_2
     replace hx209_3 := hb_ HB.out hx209_3
     replace hx209_4 := hb_ HB.out hx209_4
     replace p209 := eq_true p209
     replace q209 := eq_true q209
     go_wp2_with (first | ((with_reducible refine gate_dst (N := 4) rfl ?_); (try (refine gate_guard (by rfl) ?_; dsimp only)); refine bx_ 4 #[.int .i64 0, .int .i64 0, .int .i64 0, .int .i64 0, .int .i64 0] 54 ?_; intro gb210 hg w42 hbox hb; have BK210 := Aside0.mk (hbox); have GW210 := Aside0.mk (zs_ hg (ne_ HB.out)); have GE210 := Aside0.mk (zs_ hg (ne_ HB.out)); have NB207_210 := Aside0.mk (nl_ BK207.out hg); have NB210_207 := Aside0.mk (nm_ BK207.out hg); replace BK207 := kb_ BK207 hb; replace HB := kB_ HB hb; clear hb hbox hg; have hnb43 := NB210_207.out; have hnc43 := NB207_210.out; obtain ⟨hcz44_0, hcz44_1, hcz44_2, hcz44_3, hcz44_4, hfz44_0, hfz44_1, hfz44_2, hfz44_3, hfz44_4⟩ := cz5_ BK210.out; obtain ⟨hcz45_0, hcz45_1, hfz45_0, hfz45_1⟩ := cz2_ BK207.out) | ((with_reducible refine gate_callee (f := 52) rfl ?_); refine gl_ (some 22) Tryd.func52 #[.int .i64 ((rd_T54 l0_1 x3_1).f0), .int .i64 0, .int .i64 (wrap64 (a0_0 - 1))] ?_; (with_reducible refine (spec_l1In.calls ((rd_T54 l0_1 x3_1).f0) 0 (wrap64 (a0_0 - 1)) true _ A5.out).mono ?_); rintro e w' ⟨rfl, ⟨nd, rfl⟩⟩; refine ⟨_, rfl, ?_⟩) | (go_at_call 52; (with_reducible refine (spec_l1In.calls ((rd_T54 l0_1 x3_1).f1) 0 (wrap64 (a0_0 - 1)) false _ A7.out).mono ?_); rintro e w' ⟨rfl, ⟨nd, rfl⟩⟩))
     go_ret
     exact ⟨nw_, ne_ HB.out⟩
    subst c8
    rw [if_pos rfl] at H
    by_cases c9 : ((rd_T54 l0_1 x3_1).f0) = ((rd_T54 l0_1 x3_1).f1)
    ·rw [if_pos c9] at H
     have c9b0 : (((rd_T54 l0_1 x3_1).f0) == ((rd_T54 l0_1 x3_1).f1)) = true := beq_iff_eq.mpr c9
     have c9b1 : (((rd_T54 l0_1 x3_1).f0) != ((rd_T54 l0_1 x3_1).f1)) = false := bne_eq_false_iff_eq.mpr c9
     clear c9
     obtain rfl := Option.some.inj H
     obtain ⟨hcz10_0, hcz10_1, hfz10_0, hfz10_1⟩ := cz2_ BK207.out
     have p209 : 0 ≤ (x3_1 : Int) := of_decide_eq_true nx_
     have q209 : x3_1 < (l0_1.length : Int) := of_decide_eq_true nx_
     obtain ⟨ad209, e209, hx209_0, hx209_1, hx209_2, hx209_3, hx209_4⟩ := at_T54 HR0_1.out x3_1 p209 q209
     cases e209
     replace hx209_0 := hb_ HB.out hx209_0
     replace hx209_1 := hb_ HB.out hx209_1
     replace hx209_2 := hb_ HB.out hx209_2
     replace hx209_3 := hb_ HB.out hx209_3
     replace hx209_4 := hb_ HB.out hx209_4
     replace p209 := eq_true p209
     replace q209 := eq_true q209
     go_wp2_with (first | ((with_reducible refine gate_dst (N := 4) rfl ?_); (try (refine gate_guard (by rfl) ?_; dsimp only)); refine bx_ 4 #[.int .i64 0, .int .i64 0, .int .i64 0, .int .i64 0, .int .i64 0] 54 ?_; intro gb210 hg w11 hbox hb; have BK210 := Aside0.mk (hbox); have GW210 := Aside0.mk (zs_ hg (ne_ HB.out)); have GE210 := Aside0.mk (zs_ hg (ne_ HB.out)); have NB207_210 := Aside0.mk (nl_ BK207.out hg); have NB210_207 := Aside0.mk (nm_ BK207.out hg); replace BK207 := kb_ BK207 hb; replace HB := kB_ HB hb; clear hb hbox hg; have hnb12 := NB210_207.out; have hnc12 := NB207_210.out; obtain ⟨hcz13_0, hcz13_1, hcz13_2, hcz13_3, hcz13_4, hfz13_0, hfz13_1, hfz13_2, hfz13_3, hfz13_4⟩ := cz5_ BK210.out; obtain ⟨hcz14_0, hcz14_1, hfz14_0, hfz14_1⟩ := cz2_ BK207.out) | ((with_reducible refine gate_callee (f := 52) rfl ?_); refine gl_ (some 22) Tryd.func52 #[.int .i64 ((rd_T54 l0_1 x3_1).f0), .int .i64 0, .int .i64 (wrap64 (a0_0 - 1))] ?_; (with_reducible refine (spec_l1In.calls ((rd_T54 l0_1 x3_1).f0) 0 (wrap64 (a0_0 - 1)) true _ A5.out).mono ?_); rintro e w' ⟨rfl, ⟨nd, rfl⟩⟩; refine ⟨_, rfl, ?_⟩) | (go_at_call 52; (with_reducible refine (spec_l1In.calls ((rd_T54 l0_1 x3_1).f1) 0 (wrap64 (a0_0 - 1)) true _ A7.out).mono ?_); rintro e w' ⟨rfl, ⟨nd, rfl⟩⟩))
     go_ret
     exact ⟨nw_, ne_ HB.out⟩
    rw [if_neg c9] at H
    have c9b0 : (((rd_T54 l0_1 x3_1).f0) == ((rd_T54 l0_1 x3_1).f1)) = false := beq_eq_false_iff_ne.mpr c9
    have c9b1 : (((rd_T54 l0_1 x3_1).f0) != ((rd_T54 l0_1 x3_1).f1)) = true := bne_iff_ne.mpr c9
    replace H := Option.bind_eq_some_iff.mp H
    obtain ⟨t213, A150, H⟩ := H
    try dsimp only at H
    have A15 := Aside0.mk A150
    clear A150
    by_cases c16 : t213 = true
    rotate_left
    ·replace c16 := Bool.eq_false_iff.mpr c16
     subst c16
     have H1 : (some false) = some r := by rw [if_neg (show ¬ (false = true) by decide)] at H; exact H
     clear H
     have H := H1
     clear H1
     obtain rfl := Option.some.inj H
     obtain ⟨hcz36_0, hcz36_1, hfz36_0, hfz36_1⟩ := cz2_ BK207.out
     have p209 : 0 ≤ (x3_1 : Int) := of_decide_eq_true nx_
     have q209 : x3_1 < (l0_1.length : Int) := of_decide_eq_true nx_
     obtain ⟨ad209, e209, hx209_0, hx209_1, hx209_2, hx209_3, hx209_4⟩ := at_T54 HR0_1.out x3_1 p209 q209
     cases e209
     replace hx209_0 := hb_ HB.out hx209_0
     replace hx209_1 := hb_ HB.out hx209_1
     replace hx209_2 := hb_ HB.out hx209_2
     replace hx209_3 := hb_ HB.out hx209_3
     replace hx209_4 := hb_ HB.out hx209_4
     replace p209 := eq_true p209
     replace q209 := eq_true q209
     go_wp2_with (first | ((with_reducible refine gate_dst (N := 4) rfl ?_); (try (refine gate_guard (by rfl) ?_; dsimp only)); refine bx_ 4 #[.int .i64 0, .int .i64 0, .int .i64 0, .int .i64 0, .int .i64 0] 54 ?_; intro gb210 hg w37 hbox hb; have BK210 := Aside0.mk (hbox); have GW210 := Aside0.mk (zs_ hg (ne_ HB.out)); have GE210 := Aside0.mk (zs_ hg (ne_ HB.out)); have NB207_210 := Aside0.mk (nl_ BK207.out hg); have NB210_207 := Aside0.mk (nm_ BK207.out hg); replace BK207 := kb_ BK207 hb; replace HB := kB_ HB hb; clear hb hbox hg; have hnb38 := NB210_207.out; have hnc38 := NB207_210.out; obtain ⟨hcz39_0, hcz39_1, hcz39_2, hcz39_3, hcz39_4, hfz39_0, hfz39_1, hfz39_2, hfz39_3, hfz39_4⟩ := cz5_ BK210.out; obtain ⟨hcz40_0, hcz40_1, hfz40_0, hfz40_1⟩ := cz2_ BK207.out) | ((with_reducible refine gate_callee (f := 52) rfl ?_); refine gl_ (some 22) Tryd.func52 #[.int .i64 ((rd_T54 l0_1 x3_1).f0), .int .i64 0, .int .i64 (wrap64 (a0_0 - 1))] ?_; (with_reducible refine (spec_l1In.calls ((rd_T54 l0_1 x3_1).f0) 0 (wrap64 (a0_0 - 1)) true _ A5.out).mono ?_); rintro e w' ⟨rfl, ⟨nd, rfl⟩⟩; refine ⟨_, rfl, ?_⟩) | (go_at_call 52; (with_reducible refine (spec_l1In.calls ((rd_T54 l0_1 x3_1).f1) 0 (wrap64 (a0_0 - 1)) true _ A7.out).mono ?_); rintro e w' ⟨rfl, ⟨nd, rfl⟩⟩) | (go_at_call 52; (with_reducible refine (spec_l1In.calls ((rd_T54 l0_1 x3_1).f2) 0 99 false _ A15.out).mono ?_); rintro e w' ⟨rfl, ⟨nd, rfl⟩⟩))
     go_ret
     exact ⟨nw_, ne_ HB.out⟩
    subst c16
    rw [if_pos rfl] at H
    replace H := Option.bind_eq_some_iff.mp H
    obtain ⟨t214, A170, H⟩ := H
    try dsimp only at H
    have A17 := Aside0.mk A170
    clear A170
    by_cases c18 : t214 = true
    rotate_left
    ·replace c18 := Bool.eq_false_iff.mpr c18
     subst c18
     have H1 : (some false) = some r := by rw [if_neg (show ¬ (false = true) by decide)] at H; exact H
     clear H
     have H := H1
     clear H1
     obtain rfl := Option.some.inj H
     obtain ⟨hcz31_0, hcz31_1, hfz31_0, hfz31_1⟩ := cz2_ BK207.out
     have p209 : 0 ≤ (x3_1 : Int) := of_decide_eq_true nx_
     have q209 : x3_1 < (l0_1.length : Int) := of_decide_eq_true nx_
     obtain ⟨ad209, e209, hx209_0, hx209_1, hx209_2, hx209_3, hx209_4⟩ := at_T54 HR0_1.out x3_1 p209 q209
     cases e209
     replace hx209_0 := hb_ HB.out hx209_0
     replace hx209_1 := hb_ HB.out hx209_1
     replace hx209_2 := hb_ HB.out hx209_2
     replace hx209_3 := hb_ HB.out hx209_3
     replace hx209_4 := hb_ HB.out hx209_4
     replace p209 := eq_true p209
     replace q209 := eq_true q209
     go_wp2_with (first | ((with_reducible refine gate_dst (N := 4) rfl ?_); (try (refine gate_guard (by rfl) ?_; dsimp only)); refine bx_ 4 #[.int .i64 0, .int .i64 0, .int .i64 0, .int .i64 0, .int .i64 0] 54 ?_; intro gb210 hg w32 hbox hb; have BK210 := Aside0.mk (hbox); have GW210 := Aside0.mk (zs_ hg (ne_ HB.out)); have GE210 := Aside0.mk (zs_ hg (ne_ HB.out)); have NB207_210 := Aside0.mk (nl_ BK207.out hg); have NB210_207 := Aside0.mk (nm_ BK207.out hg); replace BK207 := kb_ BK207 hb; replace HB := kB_ HB hb; clear hb hbox hg; have hnb33 := NB210_207.out; have hnc33 := NB207_210.out; obtain ⟨hcz34_0, hcz34_1, hcz34_2, hcz34_3, hcz34_4, hfz34_0, hfz34_1, hfz34_2, hfz34_3, hfz34_4⟩ := cz5_ BK210.out; obtain ⟨hcz35_0, hcz35_1, hfz35_0, hfz35_1⟩ := cz2_ BK207.out) | ((with_reducible refine gate_callee (f := 52) rfl ?_); refine gl_ (some 22) Tryd.func52 #[.int .i64 ((rd_T54 l0_1 x3_1).f0), .int .i64 0, .int .i64 (wrap64 (a0_0 - 1))] ?_; (with_reducible refine (spec_l1In.calls ((rd_T54 l0_1 x3_1).f0) 0 (wrap64 (a0_0 - 1)) true _ A5.out).mono ?_); rintro e w' ⟨rfl, ⟨nd, rfl⟩⟩; refine ⟨_, rfl, ?_⟩) | (go_at_call 52; (with_reducible refine (spec_l1In.calls ((rd_T54 l0_1 x3_1).f1) 0 (wrap64 (a0_0 - 1)) true _ A7.out).mono ?_); rintro e w' ⟨rfl, ⟨nd, rfl⟩⟩) | (go_at_call 52; (with_reducible refine (spec_l1In.calls ((rd_T54 l0_1 x3_1).f2) 0 99 true _ A15.out).mono ?_); rintro e w' ⟨rfl, ⟨nd, rfl⟩⟩) | (go_at_call 52; (with_reducible refine (spec_l1In.calls ((rd_T54 l0_1 x3_1).f3) 0 99 false _ A17.out).mono ?_); rintro e w' ⟨rfl, ⟨nd, rfl⟩⟩))
     go_ret
     exact ⟨nw_, ne_ HB.out⟩
    subst c18
    rw [if_pos rfl] at H
    replace H := Option.bind_eq_some_iff.mp H
    obtain ⟨t215, A190, H⟩ := H
    replace H : (if t215 = true then (spec_l1Ok.l0 k1 (wrap64 (x3_1 + 1)) a0_0 l0_1) else (some false)) = some r := H
    have A19 := Aside0.mk A190
    clear A190
    by_cases c20 : t215 = true
    rotate_left
    ·replace c20 := Bool.eq_false_iff.mpr c20
     subst c20
     have H1 : (some false) = some r := by rw [if_neg (show ¬ (false = true) by decide)] at H; exact H
     clear H
     have H := H1
     clear H1
     obtain rfl := Option.some.inj H
     obtain ⟨hcz26_0, hcz26_1, hfz26_0, hfz26_1⟩ := cz2_ BK207.out
     have p209 : 0 ≤ (x3_1 : Int) := of_decide_eq_true nx_
     have q209 : x3_1 < (l0_1.length : Int) := of_decide_eq_true nx_
     obtain ⟨ad209, e209, hx209_0, hx209_1, hx209_2, hx209_3, hx209_4⟩ := at_T54 HR0_1.out x3_1 p209 q209
     cases e209
     replace hx209_0 := hb_ HB.out hx209_0
     replace hx209_1 := hb_ HB.out hx209_1
     replace hx209_2 := hb_ HB.out hx209_2
     replace hx209_3 := hb_ HB.out hx209_3
     replace hx209_4 := hb_ HB.out hx209_4
     replace p209 := eq_true p209
     replace q209 := eq_true q209
     go_wp2_with (first | ((with_reducible refine gate_dst (N := 4) rfl ?_); (try (refine gate_guard (by rfl) ?_; dsimp only)); refine bx_ 4 #[.int .i64 0, .int .i64 0, .int .i64 0, .int .i64 0, .int .i64 0] 54 ?_; intro gb210 hg w27 hbox hb; have BK210 := Aside0.mk (hbox); have GW210 := Aside0.mk (zs_ hg (ne_ HB.out)); have GE210 := Aside0.mk (zs_ hg (ne_ HB.out)); have NB207_210 := Aside0.mk (nl_ BK207.out hg); have NB210_207 := Aside0.mk (nm_ BK207.out hg); replace BK207 := kb_ BK207 hb; replace HB := kB_ HB hb; clear hb hbox hg; have hnb28 := NB210_207.out; have hnc28 := NB207_210.out; obtain ⟨hcz29_0, hcz29_1, hcz29_2, hcz29_3, hcz29_4, hfz29_0, hfz29_1, hfz29_2, hfz29_3, hfz29_4⟩ := cz5_ BK210.out; obtain ⟨hcz30_0, hcz30_1, hfz30_0, hfz30_1⟩ := cz2_ BK207.out) | ((with_reducible refine gate_callee (f := 52) rfl ?_); refine gl_ (some 22) Tryd.func52 #[.int .i64 ((rd_T54 l0_1 x3_1).f0), .int .i64 0, .int .i64 (wrap64 (a0_0 - 1))] ?_; (with_reducible refine (spec_l1In.calls ((rd_T54 l0_1 x3_1).f0) 0 (wrap64 (a0_0 - 1)) true _ A5.out).mono ?_); rintro e w' ⟨rfl, ⟨nd, rfl⟩⟩; refine ⟨_, rfl, ?_⟩) | (go_at_call 52; (with_reducible refine (spec_l1In.calls ((rd_T54 l0_1 x3_1).f1) 0 (wrap64 (a0_0 - 1)) true _ A7.out).mono ?_); rintro e w' ⟨rfl, ⟨nd, rfl⟩⟩) | (go_at_call 52; (with_reducible refine (spec_l1In.calls ((rd_T54 l0_1 x3_1).f2) 0 99 true _ A15.out).mono ?_); rintro e w' ⟨rfl, ⟨nd, rfl⟩⟩) | (go_at_call 52; (with_reducible refine (spec_l1In.calls ((rd_T54 l0_1 x3_1).f3) 0 99 true _ A17.out).mono ?_); rintro e w' ⟨rfl, ⟨nd, rfl⟩⟩) | (go_at_call 52; (with_reducible refine (spec_l1In.calls ((rd_T54 l0_1 x3_1).f4) 0 9 false _ A19.out).mono ?_); rintro e w' ⟨rfl, ⟨nd, rfl⟩⟩))
     go_ret
     exact ⟨nw_, ne_ HB.out⟩
    subst c20
    have H1 : (spec_l1Ok.l0 k1 (wrap64 (x3_1 + 1)) a0_0 l0_1) = some r := by rw [if_pos rfl] at H; exact H
    clear H
    have H := H1
    clear H1
    have H' := Aside0.mk H
    clear H
    obtain ⟨hcz21_0, hcz21_1, hfz21_0, hfz21_1⟩ := cz2_ BK207.out
    have p209 : 0 ≤ (x3_1 : Int) := of_decide_eq_true nx_
    have q209 : x3_1 < (l0_1.length : Int) := of_decide_eq_true nx_
    obtain ⟨ad209, e209, hx209_0, hx209_1, hx209_2, hx209_3, hx209_4⟩ := at_T54 HR0_1.out x3_1 p209 q209
    cases e209
    replace hx209_0 := hb_ HB.out hx209_0
    replace hx209_1 := hb_ HB.out hx209_1
    replace hx209_2 := hb_ HB.out hx209_2
    replace hx209_3 := hb_ HB.out hx209_3
    replace hx209_4 := hb_ HB.out hx209_4
    replace p209 := eq_true p209
    replace q209 := eq_true q209
    go_wp2_with (first | ((with_reducible refine gate_dst (N := 4) rfl ?_); (try (refine gate_guard (by rfl) ?_; dsimp only)); refine bx_ 4 #[.int .i64 0, .int .i64 0, .int .i64 0, .int .i64 0, .int .i64 0] 54 ?_; intro gb210 hg w22 hbox hb; have BK210 := Aside0.mk (hbox); have GW210 := Aside0.mk (zs_ hg (ne_ HB.out)); have GE210 := Aside0.mk (zs_ hg (ne_ HB.out)); have NB207_210 := Aside0.mk (nl_ BK207.out hg); have NB210_207 := Aside0.mk (nm_ BK207.out hg); replace BK207 := kb_ BK207 hb; replace HB := kB_ HB hb; clear hb hbox hg; have hnb23 := NB210_207.out; have hnc23 := NB207_210.out; obtain ⟨hcz24_0, hcz24_1, hcz24_2, hcz24_3, hcz24_4, hfz24_0, hfz24_1, hfz24_2, hfz24_3, hfz24_4⟩ := cz5_ BK210.out; obtain ⟨hcz25_0, hcz25_1, hfz25_0, hfz25_1⟩ := cz2_ BK207.out) | ((with_reducible refine gate_callee (f := 52) rfl ?_); refine gl_ (some 22) Tryd.func52 #[.int .i64 ((rd_T54 l0_1 x3_1).f0), .int .i64 0, .int .i64 (wrap64 (a0_0 - 1))] ?_; (with_reducible refine (spec_l1In.calls ((rd_T54 l0_1 x3_1).f0) 0 (wrap64 (a0_0 - 1)) true _ A5.out).mono ?_); rintro e w' ⟨rfl, ⟨nd, rfl⟩⟩; refine ⟨_, rfl, ?_⟩) | (go_at_call 52; (with_reducible refine (spec_l1In.calls ((rd_T54 l0_1 x3_1).f1) 0 (wrap64 (a0_0 - 1)) true _ A7.out).mono ?_); rintro e w' ⟨rfl, ⟨nd, rfl⟩⟩) | (go_at_call 52; (with_reducible refine (spec_l1In.calls ((rd_T54 l0_1 x3_1).f2) 0 99 true _ A15.out).mono ?_); rintro e w' ⟨rfl, ⟨nd, rfl⟩⟩) | (go_at_call 52; (with_reducible refine (spec_l1In.calls ((rd_T54 l0_1 x3_1).f3) 0 99 true _ A17.out).mono ?_); rintro e w' ⟨rfl, ⟨nd, rfl⟩⟩) | (go_at_call 52; (with_reducible refine (spec_l1In.calls ((rd_T54 l0_1 x3_1).f4) 0 9 true _ A19.out).mono ?_); rintro e w' ⟨rfl, ⟨nd, rfl⟩⟩))
    go_roundg k1
    case measure => have := HK1.out; omega
    case rel => exact ⟨(wrap64 (x3_1 + 1)), ns_, H', ⟨by have := HK1.out; omega⟩, ⟨np_ BK207.out⟩, ⟨ne_ HB.out⟩⟩
end Go.Proofs.YtppjelkljihdoaaDoor.Print
