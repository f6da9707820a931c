-- Made by this session's own program (wip/patch_print.py, over the kit's print). Lean checks it.
import Derived.Test.YtfijdkjibjdbiaaPrint0
import Derived.Test.YtfijdkjibjdbiaaPrintB
import Derived.Test.YtfijdkjibjdbiaaPrintF12
import Derived.Test.YtfijdkjibjdbiaaPrintF13
namespace Go.Proofs.Ytfijdkjibjdbiaa.Print
open Go.RowKit Go.Proofs.YtfijdkjibjdbiaaW.PrintWords Go.Proofs.YtfijdkjibjdbiaaW.PrintLast Go.Proofs.YtfijdkjibjdbiaaW.PrintMore Go.Proofs.YtfijdkjibjdbiaaX
attribute [local go_sem] max2_int min2_int max_two min_two max_three min_three max_four min_four   -- for this text's walks alone
set_option linter.unusedVariables false
set_option linter.unusedSimpArgs false

theorem ng56_4 {B : Nat} {w W W' : World} (h : Below B w W) (e : Below B w W → Below B w W' := by intro h_; repeat (first | (with_reducible first | exact h_ | apply below_alloc | apply pw_below_drewN | apply below_drew1 | refine below_set ?_ (IsS56.ge (Aside0.out (by with_reducible assumption))) | refine below_set ?_ (Aside0.out (by with_reducible assumption))) | exact h_)) : Below B w W' := e h
theorem ni56_4 {p q : Prop} (h : p) (e : p → q := by intro h_; repeat (first | (with_reducible first | exact h_ | apply IsS56.alloc | apply IsS56.drewN | apply IsS56.drew | apply IsS56.set_1 | refine IsS56.far ?_ (Aside0.out (by with_reducible assumption)) _) | exact h_)) : q := e h
attribute [local go_sem ↓] Go.Proofs.YtfijdkjibjdbiaaX.isSome_set
/-! ### spec_DrawTurnNet: function 4 -/
mutual
def spec_DrawTurnNet.j0 : Nat → List Int → Int → Int → List (S36) → Option (Int × (List (S36)) × (List (S60)))
  | 0, _, _, _, _ => none
  | k + 1, x182000, x182001, x188000, x188001 => spec_DrawTurnNet.l0 k 0 x182000 x182001 x188000 x188001
def spec_DrawTurnNet.l0 : Nat → Int → List Int → Int → Int → List (S36) → Option (Int × (List (S36)) × (List (S60)))
  | 0, _, _, _, _, _ => none
  | k + 1, x6, x182000, x182001, x188000, x188001 => if x6 < (x188001.length : Int) then (if 0 ≤ x6 then (spec_DrawTurnNet.l0 k (wrap64 (x6 + 1)) x182000 x182001 x188000 (x188001.set (x6 : Int).toNat (⟨(rd_T36 x188001 x6).f0, (rd_T36 x188001 x6).f1, Int.tmod ((rd_T36 x188001 x6).f2) 50, (rd_T36 x188001 x6).f3, (rd_T36 x188001 x6).f4⟩ : S36))) else (none)) else ((spec_l30Turns.f k x182000 x182001 x188000 x188001).bind fun bt193 => (some (x188000, x188001, bt193.1)))
end
def spec_DrawTurnNet.f (k : Nat) (l0 : List Int) : Option (Int × (List (S36)) × (List (S60))) := (spec_l30Open.f l0).bind fun bt179 => ((spec_l30Net.f k bt179.1 bt179.2).bind fun bt182 => (if (bt182.2.1.length : Int) > 6 then (if 6 ≤ (bt182.2.1.length : Int) then (spec_DrawTurnNet.j0 k bt179.1 bt182.2.2 bt182.1 (bt182.2.1.take (6 : Int).toNat)) else (none)) else (spec_DrawTurnNet.j0 k bt179.1 bt182.2.2 bt182.1 bt182.2.1)))
theorem spec_DrawTurnNet.mono_l : ∀ k, (∀ y0 y1 y2 y3, LeO (spec_DrawTurnNet.j0 k y0 y1 y2 y3) (spec_DrawTurnNet.j0 (k + 1) y0 y1 y2 y3)) ∧ (∀ y0 y1 y2 y3 y4, LeO (spec_DrawTurnNet.l0 k y0 y1 y2 y3 y4) (spec_DrawTurnNet.l0 (k + 1) y0 y1 y2 y3 y4))
  | 0 => ⟨fun _ _ _ _ r h => by simp [spec_DrawTurnNet.j0] at h, fun _ _ _ _ _ r h => by simp [spec_DrawTurnNet.l0] at h⟩
  | k + 1 => by
    obtain ⟨ih0, ih1⟩ := spec_DrawTurnNet.mono_l k
    refine ⟨?_, ?_⟩
    · intro y0 y1 y2 y3
      unfold spec_DrawTurnNet.j0
      repeat' first | (with_reducible first | exact ih0 _ _ _ _ | exact ih1 _ _ _ _ _ | exact spec_l30Net.mono _ _ _ | exact spec_l30Turns.mono _ _ _ _ _ | exact LeO.refl _ | exact LeO.none _ | refine LeO.ite ?_ ?_ | refine LeO.bind ?_ (fun _ => ?_)) | exact ih0 _ _ _ _ | exact ih1 _ _ _ _ _ | exact spec_l30Net.mono _ _ _ | exact spec_l30Turns.mono _ _ _ _ _ | exact LeO.none _ | refine LeO.ite ?_ ?_ | refine LeO.bind ?_ (fun _ => ?_)
    · intro y0 y1 y2 y3 y4
      unfold spec_DrawTurnNet.l0
      repeat' first | (with_reducible first | exact ih0 _ _ _ _ | exact ih1 _ _ _ _ _ | exact spec_l30Net.mono _ _ _ | exact spec_l30Turns.mono _ _ _ _ _ | exact LeO.refl _ | exact LeO.none _ | refine LeO.ite ?_ ?_ | refine LeO.bind ?_ (fun _ => ?_)) | exact ih0 _ _ _ _ | exact ih1 _ _ _ _ _ | exact spec_l30Net.mono _ _ _ | exact spec_l30Turns.mono _ _ _ _ _ | exact LeO.none _ | refine LeO.ite ?_ ?_ | refine LeO.bind ?_ (fun _ => ?_)
theorem spec_DrawTurnNet.mono : ∀ a0 k, LeO (spec_DrawTurnNet.f k a0) (spec_DrawTurnNet.f (k + 1) a0) := by
  intro a0 k
  obtain ⟨ih0, ih1⟩ := spec_DrawTurnNet.mono_l k
  unfold spec_DrawTurnNet.f
  repeat' first | (with_reducible first | exact ih0 _ _ _ _ | exact ih1 _ _ _ _ _ | exact spec_l30Net.mono _ _ _ | exact spec_l30Turns.mono _ _ _ _ _ | exact LeO.refl _ | exact LeO.none _ | refine LeO.ite ?_ ?_ | refine LeO.bind ?_ (fun _ => ?_)) | exact ih0 _ _ _ _ | exact ih1 _ _ _ _ _ | exact spec_l30Net.mono _ _ _ | exact spec_l30Turns.mono _ _ _ _ _ | exact LeO.none _ | refine LeO.ite ?_ ?_ | refine LeO.bind ?_ (fun _ => ?_)
def spec_DrawTurnNet.T8 : Bool × List (List Nat × List Nat) := (true, [([], []), ([0], [0]), ([], []), ([], []), ([3], [3]), ([], []), ([4, 5], [4, 5]), ([6], [6]), ([7], [7]), ([8], [8]), ([1, 2, 0, 1, 2, 3, 4, 5, 6, 7, 8, 9], [1, 2]), ([10, 0, 1, 2, 3, 4, 5, 6, 7, 8, 9], [10]), ([11, 9, 0, 1, 2, 3, 4, 5, 6, 7, 8, 9], [9, 11])])
def spec_DrawTurnNet.B8 : List Nat := [0, 1, 0, 0, 8, 0, 56, 120, 248, 504, 1023, 2047, 4095]
theorem spec_DrawTurnNet.tab8 : rtab .any (opsOf Try.f4 8) = spec_DrawTurnNet.T8 := by kernel_rfl
theorem spec_DrawTurnNet.bits8 : waitsOk spec_DrawTurnNet.T8.2 spec_DrawTurnNet.B8 = true := by kernel_rfl
set_option maxHeartbeats 200000000 in
set_option maxRecDepth 100000 in
theorem spec_DrawTurnNet.calls (k : Nat) (A0 : Option Addr) (c0 : Nat) (l0 : List Int) (r1 : Int) (r2 : List (S36)) (r3 : List (S60)) (w : World) (hr0 : Kd.C (Kd.int .u8) w A0 l0.length l0) (hc0 : l0.length ≤ c0) (h : spec_DrawTurnNet.f k l0 = some (r1, r2, r3)) :
    Calls Try.prog 4 #[.slice A0 l0.length c0] w fun e w' => ∃ v1_ v2_ : Value, e = .returned (.tuple #[.agg #[.int .i64 r1, v1_], v2_]) ∧ Kd.R k36 36 w' w.heap.size (fun _ => True) v1_ r2 ∧ Kd.R k60 60 w' w.heap.size (fun _ => True) v2_ r3 ∧ Below w.heap.size w w' := by
  have hu25 := Try.underlying25
  have HR0 := Aside0.mk hr0
  have HC0 := Aside0.mk hc0
  clear hr0 hc0
  have HB := Aside0.mk (Below.refl w.heap.size w)
  have H : ((spec_l30Open.f l0).bind fun bt179 => ((spec_l30Net.f k bt179.1 bt179.2).bind fun bt182 => (if (bt182.2.1.length : Int) > 6 then (if 6 ≤ (bt182.2.1.length : Int) then (spec_DrawTurnNet.j0 k bt179.1 bt182.2.2 bt182.1 (bt182.2.1.take (6 : Int).toNat)) else (none)) else (spec_DrawTurnNet.j0 k bt179.1 bt182.2.2 bt182.1 bt182.2.1)))) = some (r1, r2, r3) := h
  clear h
  replace H := Option.bind_eq_some_iff.mp H
  obtain ⟨⟨t179, t180⟩, A20, H⟩ := H
  try dsimp only at H
  have A2 := Aside0.mk A20
  clear A20
  replace H := Option.bind_eq_some_iff.mp H
  obtain ⟨⟨t182, t183, t186⟩, A30, H⟩ := H
  try dsimp only at H
  have A3 := Aside0.mk A30
  clear A30
  have HC4 := Aside0.mk H
  clear H
  go_enter Try.func4, Try.ntmps4
  go_upto_if 14 with (first | ((with_reducible refine gate_dst (N := 2) rfl ?_); refine bx_ 2 #[.int .i64 0, .slice none 0 0] 25 ?_; intro gb178 hg w5 hbox hb; have BK178 := Aside0.mk (hbox); have GW178 := Aside0.mk (zs_ hg (ne_ HB.out)); have GE178 := Aside0.mk (zs_ hg (ne_ HB.out)); replace HB := kB_ HB hb; clear hb hbox hg) | ((with_reducible refine gate_callee (f := 11) rfl ?_); refine gl_ (some 8) Try.func11 #[.slice A0 l0.length c0] ?_; (with_reducible refine (spec_l30Open.calls _ _ l0 t179 t180 w _ ?side1 ?side2 ?side3 A2.out).mono ?_); (case side1 => exact (ne_ HB.out)); (case side2 => exact HR0.out); (case side3 => exact HC0.out); rintro e w6 ⟨g181, rfl, hi, hb, hb2⟩; refine ⟨_, rfl, ?_⟩; have HI181 := Aside0.mk (hi); have NB181_178 := Aside0.mk (IsS56.ne_blk hi (blk_below (g := gb178) (o := .cells #[.int .i64 0, .slice none 0 0] 25 (0, 0)) (nb_ BK178.out) hb2) (by decide)); have NB178_181 := Aside0.mk (Ne.symm (IsS56.ne_blk hi (blk_below (g := gb178) (o := .cells #[.int .i64 0, .slice none 0 0] 25 (0, 0)) (nb_ BK178.out) hb2) (by decide))); replace BK178 := kb_ BK178 hb2; replace HB := Aside0.mk (hb); (try clear hb); (try clear hb2); (try clear hk); (try clear hi)) | ((with_reducible refine gate_callee (f := 12) rfl ?_); refine gl_ (some 10) Try.func12 #[.pointer (some ⟨g181, 0, none⟩)] ?_; (with_reducible refine (spec_l30Net.calls k g181 t179 t180 t182 t183 t186 w _ ?side1 ?side2 A3.out).mono ?_); (case side1 => repeat (first | (with_reducible first | exact HI181.out | apply IsS56.alloc | apply IsS56.drewN | apply IsS56.drew | apply IsS56.set_1 | refine IsS56.far ?_ NB181_178.out _) | exact HI181.out)); (case side2 => exact (ng56_4 HB.out)); rintro e w7 ⟨v184, rfl, ho0, hi, hb, hk⟩; refine ⟨_, rfl, ?_⟩; have HO185 := Aside0.mk (Kd.R_lower ho0 (below_size (ng56_4 HB.out))); replace BK178 := kk_ BK178 hk NB178_181; replace HB := Aside0.mk (hb); replace HI181 := Aside0.mk (hi); (try clear hb); (try clear hb2); (try clear hk); (try clear hi); (try clear ho0)) | ((with_reducible refine gate_dst (N := 5) rfl ?_); refine bx_ 5 #[.int .i64 0, .slice none 0 0] 25 ?_; intro gb187 hg w8 hbox hb; have BK187 := Aside0.mk (hbox); have GW187 := Aside0.mk (zs_ hg (ng56_4 HB.out)); have GE187 := Aside0.mk (zs_ hg (ng56_4 HB.out)); have NB178_187 := Aside0.mk (nl_ BK178.out hg); have NB187_178 := Aside0.mk (nm_ BK178.out hg); have NB181_187 := Aside0.mk ((by rw [hg]; exact Nat.ne_of_lt (IsS56.lt (show IsS56 w _ g181 t179 t186 from ni56_4 HI181.out)) : g181 ≠ gb187)); have NB187_181 := Aside0.mk ((by rw [hg]; exact Nat.ne_of_gt (IsS56.lt (show IsS56 w _ g181 t179 t186 from ni56_4 HI181.out)) : gb187 ≠ g181)); replace HO185 := kR_ HO185 hb; replace BK178 := kb_ BK178 hb; replace HI181 := Aside0.mk (IsS56.below (ni56_4 HI181.out) hb); replace HB := Aside0.mk (below_step (ng56_4 HB.out) hb); clear hb hbox hg; have hnb9 := NB187_178.out; have hnc9 := NB178_187.out; have hnb10 := NB187_181.out; have hnc10 := NB181_187.out; obtain ⟨hcz11_0, hcz11_1, hfz11_0, hfz11_1⟩ := cz2_ BK187.out; obtain ⟨Ao12, co12, eo12⟩ := Kd.R_slice HO185.out; subst eo12))
  (try simp only [Act.put, List.setIfInBounds_toArray, List.set_cons_zero, List.set_cons_succ])
  go_cut [] (fun wc => ∃ (kq : Nat) (x188001_3 : List (S36)) (u188001 : Value), Aside0 (spec_DrawTurnNet.j0 kq t179 t186 t182 x188001_3 = some (r1, r2, r3)) ∧ Aside0 (kq ≤ k) ∧ Aside0 (Kd.R k36 36 wc w.heap.size (fun _ => True) u188001 x188001_3) ∧ Aside0 (wc.heap[gb178]? = some (.cells #[.int .i64 0, (.slice none 0 0)] 25 (0, 0))) ∧ Aside0 (wc.heap[gb187]? = some (.cells #[.int .i64 t182, u188001] 25 (0, 0))) ∧ Aside0 (IsS56 w wc g181 t179 t186) ∧ Aside0 (Below w.heap.size w wc))
  case first =>
   have H := HC4.out
   clear HC4
   by_cases c13 : (t183.length : Int) > 6
   rotate_left
   ·rw [if_neg c13] at H
    have c13b0 : decide (6 < (t183.length : Int)) = false := decide_eq_false c13
    have c13b1 : decide (6 < t183.length) = false := decide_eq_false (by omega)
    clear c13
    (first | rw [c13b0] | (simp only [i64_w, i32_w]; rw [c13b0]) | skip)
    have H' := Aside0.mk H
    clear H
    go_wp2
    go_meet
    case rel => exact ⟨_, (t183), (.slice Ao12 t183.length co12), H', ⟨by first | omega | exact Nat.le_refl _⟩, ⟨by (with_reducible repeat (first | apply Kd.R_alloc | apply Kd.R_drewN | apply Kd.R_drew)); exact Kd.R_mono (rf2_ (Kd.R_types HO185.out BK187.out (by decide))) (fun _ hk => trivial)⟩, ⟨np_ BK178.out⟩, ⟨np_ BK187.out⟩, ⟨ni56_4 HI181.out⟩, ⟨by repeat (first | (with_reducible first | exact HB.out | apply below_alloc | apply pw_below_drewN | apply below_drew1 | refine below_set ?_ (IsS56.ge HI181.out) | refine below_set ?_ GE178.out | refine below_set ?_ GE187.out) | exact HB.out)⟩⟩
   rw [if_pos c13] at H
   have c13b0 : decide (6 < (t183.length : Int)) = true := decide_eq_true c13
   have c13b1 : decide (6 < t183.length) = true := decide_eq_true (by omega)
   clear c13
   (first | rw [c13b0] | (simp only [i64_w, i32_w]; rw [c13b0]) | skip)
   by_cases c14 : 6 ≤ (t183.length : Int)
   rotate_left
   ·rw [if_neg c14] at H
    exact absurd H (by simp)
   rw [if_pos c14] at H
   have c14b0 := eq_true c14
   have c14b1 : decide (6 ≤ (t183.length : Int)) = true := decide_eq_true c14
   clear c14
   obtain ⟨y188, hy188⟩ : ∃ y_ : List (S36), y_ = (t183.take (6 : Int).toNat) := ⟨_, rfl⟩
   replace H : (spec_DrawTurnNet.j0 k t179 t186 t182 y188) = some (r1, r2, r3) := by first | (rw [hy188]; with_reducible exact H) | (have H2_ := (Option.bind_some _ _).symm.trans H; rw [hy188]; with_reducible exact H2_) | (have H2_ := (Option.bind_some _ _).symm.trans H; with_reducible exact H2_) | with_reducible exact H | (rw [hy188]; exact H) | exact H
   have Ny188 := Aside0.mk hy188
   clear hy188
   have H' := Aside0.mk H
   clear H
   have hnb15 := NB187_178.out
   have hnc15 := NB178_187.out
   have hnb16 := NB187_181.out
   have hnc16 := NB181_187.out
   obtain ⟨hcz17_0, hcz17_1, hfz17_0, hfz17_1⟩ := cz2_ BK187.out
   have q18 : (6 : Int) ≤ ((t183.length : Int) : Int) := of_decide_eq_true nx_
   obtain ⟨i018, hi018, _, hsz18, _⟩ := info_parts info36
   have hcut18 := cut_to (P := Try.prog) 23 36 .i64 Try.underlying23 hi018 Ao12 t183.length co12 6 (by omega) q18 (Kd.R_reads' HO185.out).2.1
   have hr18 := Kd.R_take (m := (6 : Int).toNat) HO185.out (by omega)
   have hy18 : y188.length = (6 : Int).toNat := (by rw [Ny188.out, List.length_take]; omega)
   rw [← Ny188.out] at hr18
   rw [← hy18] at hr18 hcut18
   clear hy18 hi018 hsz18 HO185
   have HO190 := Aside0.mk hr18
   clear hr18
   replace q18 := eq_true q18
   go_wp2
   go_meet
   case rel => exact ⟨_, (y188), (.slice Ao12 y188.length co12), H', ⟨by first | omega | exact Nat.le_refl _⟩, ⟨by (with_reducible repeat (first | apply Kd.R_alloc | apply Kd.R_drewN | apply Kd.R_drew)); exact Kd.R_mono (Kd.R_far (p := ⟨gb187, 1, none⟩) (rf2_ (Kd.R_types HO190.out BK187.out (by decide))) (fun _ hk => hk.2) (.slice Ao12 y188.length co12)) (fun _ hk => trivial)⟩, ⟨np_ BK178.out⟩, ⟨np_ BK187.out⟩, ⟨ni56_4 HI181.out⟩, ⟨by repeat (first | (with_reducible first | exact HB.out | apply below_alloc | apply pw_below_drewN | apply below_drew1 | refine below_set ?_ (IsS56.ge HI181.out) | refine below_set ?_ GE178.out | refine below_set ?_ GE187.out) | exact HB.out)⟩⟩
  case rest =>
   clear HC4
   try clear hcz11_0
   try clear hcz11_1
   try clear hfz11_0
   try clear hfz11_1
   obtain ⟨kq, x188001_3, u188001, HA, HJ3, HO_188001, BK178, BK187, HI181, HB⟩ := hcut
   cases kq with
   | zero => exact absurd HA.out (by simp [spec_DrawTurnNet.j0])
   | succ kj3 =>
    have H := HA.out
    clear HA
    simp only [spec_DrawTurnNet.j0] at H
    have H' := Aside0.mk H
    clear H
    go_wp2
    go_loopg [6] kj3 (fun kq v6 w' => ∃ (x6_2 : Int) (x188001_2 : List (S36)) (u188001 : Value), v6 = .int .i64 x6_2 ∧ Aside0 (spec_DrawTurnNet.l0 kq x6_2 t179 t186 t182 x188001_2 = some (r1, r2, r3)) ∧ Aside0 (kq ≤ kj3) ∧ Aside0 (Kd.R k36 36 w' w.heap.size (fun _ => True) u188001 x188001_2) ∧ Aside0 (w'.heap[gb178]? = some (.cells #[.int .i64 0, (.slice none 0 0)] 25 (0, 0))) ∧ Aside0 (w'.heap[gb187]? = some (.cells #[.int .i64 t182, u188001] 25 (0, 0))) ∧ Aside0 (IsS56 w w' g181 t179 t186) ∧ Aside0 (Below w.heap.size w w'))
    case atStart => exact ⟨(0), (x188001_3), (u188001), ns_, H', ⟨Nat.le_refl _⟩, ⟨nr_ HO_188001.out⟩, ⟨nb_ BK178.out⟩, ⟨nb_ BK187.out⟩, ⟨ni56_4 HI181.out⟩, ⟨by repeat (first | (with_reducible first | exact HB.out | apply below_alloc | apply pw_below_drewN | apply below_drew1 | refine below_set ?_ (IsS56.ge HI181.out) | refine below_set ?_ GE178.out | refine below_set ?_ GE187.out) | exact HB.out)⟩⟩
    case round =>
     clear H'
     try clear hcz11_0
     try clear hcz11_1
     try clear hfz11_0
     try clear hfz11_1
     obtain ⟨x6_2, x188001_2, u188001, rfl, HA, HK2, HO_188001, BK178, BK187, HI181, HB⟩ := hrel
     cases gk with
     | zero => exact absurd HA.out (by simp [spec_DrawTurnNet.l0])
     | succ k2 =>
      have H := HA.out
      clear HA
      simp only [spec_DrawTurnNet.l0] at H
      by_cases c19 : x6_2 < (x188001_2.length : Int)
      rotate_left
      ·rw [if_neg c19] at H
       have c19b0 : decide (x6_2 < (x188001_2.length : Int)) = false := decide_eq_false c19
       clear c19
       replace H := Option.bind_eq_some_iff.mp H
       obtain ⟨⟨t193, t196⟩, A280, H⟩ := H
       replace H : (some (t182, x188001_2, t193)) = some (r1, r2, r3) := H
       have A28 := Aside0.mk A280
       clear A280
       simp only [Option.some.injEq, Prod.mk.injEq] at H
       obtain ⟨rfl, rfl, rfl⟩ := H
       have hnb29 := NB187_178.out
       have hnc29 := NB178_187.out
       have hnb30 := NB187_181.out
       have hnc30 := NB181_187.out
       obtain ⟨hcz31_0, hcz31_1, hfz31_0, hfz31_1⟩ := cz2_ BK187.out
       obtain ⟨Ao32, co32, eo32⟩ := Kd.R_slice HO_188001.out
       subst eo32
       try go_wp2
       replace HO_188001 := Aside0.mk (Kd.R_drew HO_188001.out)
       replace BK178 := Aside0.mk (blk_drew BK178.out)
       replace BK187 := Aside0.mk (blk_drew BK187.out)
       replace HI181 := Aside0.mk (IsS56.drew HI181.out)
       replace HB := Aside0.mk (below_drew1 HB.out)
       refine start_ (n := 6) (S := fun w' => w'.cell? ⟨gb187, 0, none⟩ = some (.int .i64 t182) ∧ w'.cell? ⟨gb187, 1, none⟩ = some (.slice Ao32 x188001_2.length co32)) (ds := []) #[false, false, false, false, false, false] (by kernel_rfl) rfl rfl ⟨ct_ BK187.out 0, ct_ BK187.out 1⟩ (fun hHeld => ?_)
       generalize wr.drew = w33 at HO_188001 BK178 BK187 HI181 HB hHeld ⊢
       refine pure_ (i := 1) (N := some 39) (v := ?_) (a' := ?_) #[false, true, false, false, false, false] rfl rfl (by kernel_rfl) (fun _ _ _ h => h) (Or.inl ⟨by rfl, ?_⟩) ?_ ?_
       rotate_left
       ·intro w'
        go_simp
        with_reducible rfl
       rotate_left
       ·simp only [Act.put, List.setIfInBounds_toArray, List.set_cons_zero, List.set_cons_succ, i64_w, i32_w]
        rfl
       refine take_ (i := 0) (N := some 38) (v := ?_) (a' := ?_) #[true, true, false, false, false, false] rfl rfl (by kernel_rfl) (fun _ _ _ h => h) (Or.inl ⟨by rfl, ?_⟩) hHeld ?_ ?_
       rotate_left
       ·rintro w' ⟨s0, s1⟩
        go_simp
        with_reducible rfl
       rotate_left
       ·simp only [Act.put, List.setIfInBounds_toArray, List.set_cons_zero, List.set_cons_succ, i64_w, i32_w]
        rfl
       refine take_ (i := 2) (N := some 40) (v := ?_) (a' := ?_) #[true, true, true, false, false, false] rfl rfl (by kernel_rfl) (fun _ _ _ h => h) (Or.inl ⟨by rfl, ?_⟩) hHeld ?_ ?_
       rotate_left
       ·rintro w' ⟨s0, s1⟩
        go_simp
        with_reducible rfl
       rotate_left
       ·simp only [Act.put, List.setIfInBounds_toArray, List.set_cons_zero, List.set_cons_succ, i64_w, i32_w]
        rfl
       refine one_ (i := 3) (N := some 41) #[true, true, true, true, false, false] rfl rfl (by kernel_rfl) (by decide) (fun K hK => ?_)
       refine go_ Try.func13 #[.pointer (some ⟨g181, 0, none⟩), .agg #[.int .i64 t182, .slice Ao32 x188001_2.length co32]] ?_
       with_reducible refine (spec_l30Turns.calls k2 g181 t179 t186 t182 _ _ x188001_2 t193 t196 w _ ?side1 ?side2 ?side3 ?side4 A28.out).mono ?_
       (case side1 => repeat (first | (with_reducible first | exact HI181.out | apply IsS56.alloc | apply IsS56.drewN | apply IsS56.drew | apply IsS56.set_1 | refine IsS56.far ?_ NB181_178.out _ | refine IsS56.far ?_ NB181_187.out _) | exact HI181.out))
       (case side2 => exact (ng56_4 HB.out))
       (case side3 => exact Kd.C_foot_own (IsS56.apart (show IsS56 w _ g181 t179 t186 from ni56_4 HI181.out) (nr_ HO_188001.out) (by decide)) (fun _ h_ => h_.2))
       (case side4 => exact (Kd.R_reads' HO_188001.out).2.1)
       rintro e w34 ⟨v194, rfl, ho0, hi, hb, hk⟩
       refine ⟨_, rfl, ?_⟩
       replace HO_188001 := Aside0.mk (Kd.R_mono (Kd.R_keep (IsS56.apart (show IsS56 w _ g181 t179 t186 from ni56_4 HI181.out) (nr_ HO_188001.out) (by decide)) hk (fun _ h => h.2)) (fun _ h => h.1))
       replace BK178 := kk_ BK178 hk NB178_181
       replace BK187 := kk_ BK187 hk NB187_181
       have HO195 := Aside0.mk (Kd.R_lower ho0 (below_size (ng56_4 HB.out)))
       replace HB := Aside0.mk (hb)
       replace HI181 := Aside0.mk (hi)
       (try clear hb)
       (try clear hb2)
       (try clear hk)
       (try clear hi)
       (try clear ho0)
       refine hK.out _ _ ⟨ct_ BK187.out 0, ct_ BK187.out 1⟩ (fun hHeld => ?_)
       clear hK K
       refine nm1_ (some 41) ?_
       refine one_ (i := 4) (N := none) #[true, true, true, true, true, false] rfl rfl (by kernel_rfl) (by decide) (fun K hK => ?_)
       have hs35 : w34.cell? ⟨gb178, 0, none⟩ = some (.int .i64 0) := ct_ BK178.out 0
       have hfs35 := blk_frozen BK178.out 0
       have hns35_1 := NB187_178.out
       have hms35_1 := NB178_187.out
       have hs36 : w34.cell? ⟨gb178, 1, none⟩ = some (.slice none 0 0) := ct_ BK178.out 1
       have hfs36 := blk_frozen BK178.out 1
       have hns36_1 := NB187_178.out
       have hms36_1 := NB178_187.out
       refine skip_ (w1 := ?_) (by rfl) rfl ?_ ?_
       rotate_left
       ·go_simp
        rfl
       refine hK.out _ _ ⟨((cell_far (p := ⟨gb178, _, none⟩) NB187_178.out _).trans (((cell_far (p := ⟨gb178, _, none⟩) NB187_178.out _).trans (hHeld.1)))), ((cell_far (p := ⟨gb178, _, none⟩) NB187_178.out _).trans (((cell_far (p := ⟨gb178, _, none⟩) NB187_178.out _).trans (hHeld.2))))⟩ (fun hHeld => ?_)
       clear hK K
       refine pure_ (i := 5) (N := some 3) (v := ?_) (a' := ?_) #[true, true, true, true, true, true] rfl rfl (by kernel_rfl) (fun _ _ _ h => h) (Or.inl ⟨by rfl, ?_⟩) ?_ ?_
       rotate_left
       ·intro w'
        go_simp
        with_reducible rfl
       rotate_left
       ·simp only [Act.put, List.setIfInBounds_toArray, List.set_cons_zero, List.set_cons_succ, i64_w, i32_w]
        rfl
       refine done_ (by kernel_rfl) ?_
       try go_wp2
       refine bodyPost_ret (results_ct rfl _ _ gb178 25 #[.int .i64 t182, .slice Ao32 x188001_2.length co32] (0, 0) _ rfl (np_ BK178.out) Try.underlying25 rfl (by kernel_rfl)) rfl ?_
       exact ⟨_, _, nw_, by (with_reducible repeat (first | apply Kd.R_alloc | apply Kd.R_drewN | apply Kd.R_drew)); exact Kd.R_mono (rf2_ (Kd.R_types HO_188001.out BK178.out (by decide))) (fun _ hk => trivial), by (with_reducible repeat (first | apply Kd.R_alloc | apply Kd.R_drewN | apply Kd.R_drew)); exact Kd.R_mono (rf2_ (Kd.R_types HO195.out BK178.out (by decide))) (fun _ hk => trivial), by repeat (first | (with_reducible first | exact HB.out | apply below_alloc | apply pw_below_drewN | apply below_drew1 | refine below_set ?_ (IsS56.ge HI181.out) | refine below_set ?_ GE178.out | refine below_set ?_ GE187.out) | exact HB.out)⟩

      rw [if_pos c19] at H
      have c19b0 : decide (x6_2 < (x188001_2.length : Int)) = true := decide_eq_true c19
      clear c19
      by_cases c20 : 0 ≤ x6_2
      rotate_left
      ·rw [if_neg c20] at H
       exact absurd H (by simp)
      rw [if_pos c20] at H
      have c20b0 : decide (0 ≤ x6_2) = true := decide_eq_true c20
      clear c20
      obtain ⟨y192, hy192⟩ : ∃ y_ : List (S36), y_ = (x188001_2.set (x6_2 : Int).toNat (⟨(rd_T36 x188001_2 x6_2).f0, (rd_T36 x188001_2 x6_2).f1, Int.tmod ((rd_T36 x188001_2 x6_2).f2) 50, (rd_T36 x188001_2 x6_2).f3, (rd_T36 x188001_2 x6_2).f4⟩ : S36)) := ⟨_, rfl⟩
      replace H : (spec_DrawTurnNet.l0 k2 (wrap64 (x6_2 + 1)) t179 t186 t182 y192) = some (r1, r2, r3) := by first | (rw [hy192]; with_reducible exact H) | (have H2_ := (Option.bind_some _ _).symm.trans H; rw [hy192]; with_reducible exact H2_) | (have H2_ := (Option.bind_some _ _).symm.trans H; with_reducible exact H2_) | with_reducible exact H | (rw [hy192]; exact H) | exact H
      have Ny192 := Aside0.mk hy192
      clear hy192
      have H' := Aside0.mk H
      clear H
      have hnb22 := NB187_178.out
      have hnc22 := NB178_187.out
      have hnb23 := NB187_181.out
      have hnc23 := NB181_187.out
      obtain ⟨hcz24_0, hcz24_1, hfz24_0, hfz24_1⟩ := cz2_ BK187.out
      obtain ⟨Ao25, co25, eo25⟩ := Kd.R_slice HO_188001.out
      subst eo25
      try go_wp2
      replace HO_188001 := Aside0.mk (Kd.R_drew HO_188001.out)
      replace BK178 := Aside0.mk (blk_drew BK178.out)
      replace BK187 := Aside0.mk (blk_drew BK187.out)
      replace HI181 := Aside0.mk (IsS56.drew HI181.out)
      replace HB := Aside0.mk (below_drew1 HB.out)
      have p191 : 0 ≤ (x6_2 : Int) := of_decide_eq_true nx_
      have q191 : x6_2 < (x188001_2.length : Int) := of_decide_eq_true nx_
      obtain ⟨ad191, e191, hx191_0, hx191_1, hx191_2, hx191_3, hx191_4⟩ := at_T36 (Kd.R_reads' HO_188001.out).2.2 x6_2 p191 q191
      cases e191
      replace p191 := eq_true p191
      replace q191 := eq_true q191
      have p21 : 0 ≤ (x6_2 : Int) := of_decide_eq_true nx_
      have q21 : (x6_2 : Int) < ((x188001_2.length : Int) : Int) := of_decide_eq_true nx_
      obtain ⟨go21, co21, eo21, gb21, gl21, cl21, HG21⟩ := Kd.R_form HO_188001.out (by omega)
      (first | cases eo21 | (injection eo21 with ea_ en_ ec_; (first | subst ea_ | (injection ea_ with ea_; subst ea_)); subst ec_; clear en_))
      have GB21 := Aside0.mk gb21
      have GG21 := Aside0.mk HG21
      clear gb21 gl21 HG21
      (first | simp only [add_plain] at hx191_0 | skip)
      (first | simp only [add_plain] at hx191_1 | skip)
      (first | simp only [add_plain] at hx191_2 | skip)
      (first | simp only [add_plain] at hx191_3 | skip)
      (first | simp only [add_plain] at hx191_4 | skip)
      obtain ⟨ce21, hcl21, hM21, hcc21, hfr21⟩ := Kd.R_elem HO_188001.out z36 (x6_2 : Int) p21 q21
      obtain rfl := k36_openM hM21
      have hx21_0 : World.cell? _ ⟨go21, (x6_2 : Int).toNat * 5, none⟩ = some (.int .i64 ((rd_T36 x188001_2 x6_2).f0)) := hcc21 0 _ rfl
      have hx21_1 : World.cell? _ ⟨go21, (x6_2 : Int).toNat * 5 + 1, none⟩ = some (.int .i64 ((rd_T36 x188001_2 x6_2).f1)) := hcc21 1 _ rfl
      have hx21_2 : World.cell? _ ⟨go21, (x6_2 : Int).toNat * 5 + 2, none⟩ = some (.int .i64 ((rd_T36 x188001_2 x6_2).f2)) := hcc21 2 _ rfl
      have hx21_3 : World.cell? _ ⟨go21, (x6_2 : Int).toNat * 5 + 3, none⟩ = some (.int .i64 ((rd_T36 x188001_2 x6_2).f3)) := hcc21 3 _ rfl
      have hx21_4 : World.cell? _ ⟨go21, (x6_2 : Int).toNat * 5 + 4, none⟩ = some (.int .i64 ((rd_T36 x188001_2 x6_2).f4)) := hcc21 4 _ rfl
      have hf21_0 : World.frozen? _ ⟨go21, (x6_2 : Int).toNat * 5, none⟩ = false := hfr21 0
      have hf21_1 : World.frozen? _ ⟨go21, (x6_2 : Int).toNat * 5 + 1, none⟩ = false := hfr21 1
      have hf21_2 : World.frozen? _ ⟨go21, (x6_2 : Int).toNat * 5 + 2, none⟩ = false := hfr21 2
      have hf21_3 : World.frozen? _ ⟨go21, (x6_2 : Int).toNat * 5 + 3, none⟩ = false := hfr21 3
      have hf21_4 : World.frozen? _ ⟨go21, (x6_2 : Int).toNat * 5 + 4, none⟩ = false := hfr21 4
      clear hcl21 hcc21 hfr21 hM21
      replace p21 := eq_true p21
      replace q21 := eq_true q21
      have HN181_go21 := Aside0.mk (show g181 ≠ go21 from by have h_ := IsS56.own_ne HI181.out HO_188001.out (by decide); intro e_; exact h_ (by rw [e_]; rfl))
      obtain ⟨ce27, hcl27, hM27, hcc27, hfr27⟩ := Kd.R_elem HO_188001.out z36 (x6_2 : Int) (of_decide_eq_true nx_) (by have h_ : (x6_2 : Int) < ((x188001_2.length : Int) : Int) := of_decide_eq_true nx_; first | exact h_ | (have e_ := (Kd.R_reads' HO_188001.out).1; omega) | simpa using h_)
      obtain rfl := k36_openM hM27
      have HP27 := (Kd.R_seg HO_188001.out (x6_2 : Int) (of_decide_eq_true nx_) (by have h_ : (x6_2 : Int) < ((x188001_2.length : Int) : Int) := of_decide_eq_true nx_; first | exact h_ | (have e_ := (Kd.R_reads' HO_188001.out).1; omega) | simpa using h_) (seg := [.int .i64 (Int.tmod ((rd_T36 x188001_2 x6_2).f2) 50)]) (j := 2) hcl27 hcc27 (show 3 ≤ 5 from by decide) (x' := (⟨(rd_T36 x188001_2 x6_2).f0, (rd_T36 x188001_2 x6_2).f1, Int.tmod ((rd_T36 x188001_2 x6_2).f2) 50, (rd_T36 x188001_2 x6_2).f3, (rd_T36 x188001_2 x6_2).f4⟩ : S36)) (k36_mkM _ _ _ (⟨(rd_T36 x188001_2 x6_2).f0, (rd_T36 x188001_2 x6_2).f1, Int.tmod ((rd_T36 x188001_2 x6_2).f2) 50, (rd_T36 x188001_2 x6_2).f3, (rd_T36 x188001_2 x6_2).f4⟩ : S36) ) (fun _ hk => hk)).1
      rw [← Ny192.out] at HP27
      have HQ27 := Aside0.mk HP27
      clear hcl27 hcc27 hfr27 hM27 HP27
      refine start_ (n := 13) (S := fun w' => w'.cell? ⟨gb187, 0, none⟩ = some (.int .i64 t182) ∧ w'.cell? ⟨gb187, 1, none⟩ = some (.slice (some ⟨go21, 0, none⟩) x188001_2.length co25) ∧ w'.cell? ⟨go21, ((x6_2).toNat * 5), none⟩ = some (.int .i64 ((rd_T36 x188001_2 x6_2).f0)) ∧ w'.cell? ⟨go21, ((x6_2).toNat * 5) + 1, none⟩ = some (.int .i64 ((rd_T36 x188001_2 x6_2).f1)) ∧ w'.cell? ⟨go21, ((x6_2).toNat * 5) + 2, none⟩ = some (.int .i64 ((rd_T36 x188001_2 x6_2).f2)) ∧ w'.cell? ⟨go21, ((x6_2).toNat * 5) + 3, none⟩ = some (.int .i64 ((rd_T36 x188001_2 x6_2).f3)) ∧ w'.cell? ⟨go21, ((x6_2).toNat * 5) + 4, none⟩ = some (.int .i64 ((rd_T36 x188001_2 x6_2).f4))) (ds := [12]) (bm_ 13 0) (by kernel_rfl) rfl rfl ⟨ct_ BK187.out 0, ct_ BK187.out 1, hx191_0, hx191_1, hx191_2, hx191_3, hx191_4⟩ (fun hHeld => ?_); refine with_tabW spec_DrawTurnNet.tab8 spec_DrawTurnNet.bits8 (fun HT_ HW_ => ?_)
      generalize wr.drew = w26 at HO_188001 BK178 BK187 HI181 HB GG21 HQ27 hf21_0 hf21_1 hf21_2 hf21_3 hf21_4 hx191_0 hx191_1 hx191_2 hx191_3 hx191_4 hx21_0 hx21_1 hx21_2 hx21_3 hx21_4 hHeld ⊢
      refine pu_ 0 26 (bm_ 13 1) HT_.out ?_
      refine pu_ 2 28 (bm_ 13 5) HT_.out ?_
      refine pu_ 3 29 (bm_ 13 13) HT_.out ?_
      refine pu_ 5 31 (bm_ 13 45) HT_.out ?_
      refine tk_ 1 27 (bm_ 13 47) HT_.out HW_.out hHeld ?_
      refine tk_ 4 30 (bm_ 13 63) HT_.out HW_.out hHeld ?_
      refine pu_ 6 32 (bm_ 13 127) HT_.out ?_
      refine pu_ 7 33 (bm_ 13 255) HT_.out ?_
      refine tk_ 8 34 (bm_ 13 511) HT_.out HW_.out hHeld ?_
      refine pu_ 9 35 (bm_ 13 1023) HT_.out ?_
      refine pu_ 10 36 (bm_ 13 2047) HT_.out ?_
      refine pu_ 11 37 (bm_ 13 4095) HT_.out ?_
      refine last_ (i := 12) (N := none) (bm_ 13 8191) rfl rfl (one_of HT_.out (by kernel_rfl)) (by decide) (fun K hK => ?_)
      refine skip_ (w1 := ?_) (by rfl) rfl ?_ ?_
      rotate_left
      ·go_simp
       rfl
      refine hK.out _ _ ?_
      clear hK K
      refine done_ (done_of HT_.out (by kernel_rfl)) ?_
      try go_wp2
      go_roundg k2
      case measure => have := HJ3.out; have := HK2.out; omega
      case rel => exact ⟨(wrap64 (x6_2 + 1)), (y192), (.slice (some ⟨go21, 0, none⟩) x188001_2.length co25), ns_, H', ⟨by have := HJ3.out; have := HK2.out; omega⟩, ⟨nr_ HQ27.out⟩, ⟨by (with_reducible repeat (first | refine blk_drewN ?_ _ | refine blk_drew ?_ | refine blk_alloc ?_ _)); refine blk_far ?_ (by have h_ := Kd.R_ne HO_188001.out BK178.out (by decide); intro e_; exact h_ (by rw [e_]; rfl)) _; (with_reducible repeat (first | refine blk_drewN ?_ _ | refine blk_drew ?_ | refine blk_alloc ?_ _)); exact BK178.out⟩, ⟨by (with_reducible repeat (first | refine blk_drewN ?_ _ | refine blk_drew ?_ | refine blk_alloc ?_ _)); refine blk_far ?_ (by have h_ := Kd.R_ne HO_188001.out BK187.out (by decide); intro e_; exact h_ (by rw [e_]; rfl)) _; (with_reducible repeat (first | refine blk_drewN ?_ _ | refine blk_drew ?_ | refine blk_alloc ?_ _)); exact BK187.out⟩, ⟨ni56_4 HI181.out⟩, ⟨by repeat (first | (with_reducible first | exact HB.out | apply below_alloc | apply pw_below_drewN | apply below_drew1 | refine below_set ?_ GB21.out | refine below_set ?_ (IsS56.ge HI181.out) | refine below_set ?_ GE178.out | refine below_set ?_ GE187.out) | exact HB.out)⟩⟩
end Go.Proofs.Ytfijdkjibjdbiaa.Print
