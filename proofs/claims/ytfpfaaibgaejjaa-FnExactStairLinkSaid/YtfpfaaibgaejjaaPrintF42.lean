-- Made by this session's own program (wip/patch_print.py, over the kit's print). Lean checks it.
import Derived.Test.YtfpfaaibgaejjaaPrint0
import Derived.Test.YtfpfaaibgaejjaaPrintB
import Derived.Test.YtfpfaaibgaejjaaPrintF44
namespace Go.Proofs.Ytfpfaaibgaejjaa.Print
open Go.RowKit Go.Proofs.YtfpfaaibgaejjaaW.PrintWords Go.Proofs.YtfpfaaibgaejjaaW.PrintLast Go.Proofs.YtfpfaaibgaejjaaW.PrintMore Go.Proofs.YtfpfaaibgaejjaaX
attribute [local go_sem] max2_int min2_int max_two min_two max_three min_three max_four min_four   -- for this text's walks alone
set_option linter.unusedVariables false
set_option linter.unusedSimpArgs false

theorem ng68_42 {B : Nat} {w W W' : World} (h : Below B w W) (e : Below B w W → Below B w W' := by intro h_; repeat (first | (with_reducible first | exact h_ | apply below_alloc | apply pw_below_drewN | apply below_drew1 | refine below_set ?_ (IsS68.ge (Aside0.out (by with_reducible assumption))) | refine below_set ?_ (Aside0.out (by with_reducible assumption))) | exact h_)) : Below B w W' := e h
theorem ni68_42 {p q : Prop} (h : p) (e : p → q := by intro h_; repeat (first | (with_reducible first | exact h_ | apply IsS68.alloc | apply IsS68.drewN | apply IsS68.drew | apply IsS68.set_1 | refine IsS68.far ?_ (Aside0.out (by with_reducible assumption)) _) | exact h_)) : q := e h
/-! ### spec_l30Steps: function 42 -/
def spec_l30Steps.l0 : Nat → List (S36) → Int → List Int → Int → Option ((List (S36)) × Int)
  | 0, _, _, _, _ => none
  | k + 1, x5, x6, x1000, x1001 => if x6 > 0 then ((spec_l30Rd_pick.f k x1000 x1001 60).bind fun bt267 => ((spec_l30Rd_pick.f k x1000 bt267.2 40).bind fun bt269 => (if x5.length < 8796093022208 then (spec_l30Steps.l0 k (x5 ++ [(⟨bt267.1, wrap64 (bt267.1 + bt269.1)⟩ : S36)]) (wrap64 (x6 - 1)) x1000 bt269.2) else (none)))) else (some (x5, x1001))
def spec_l30Steps.f (k : Nat) (s0_0 : List Int) (s0_1 : Int) (a1 : Int) : Option ((List (S36)) × Int) := (spec_l30Rd_pick.f k s0_0 s0_1 (wrap64 (a1 + 1))).bind fun bt265 => (spec_l30Steps.l0 k (([] : List (S36))) bt265.1 s0_0 bt265.2)
theorem spec_l30Steps.mono_l : ∀ k, (∀ y0 y1 y2 y3, LeO (spec_l30Steps.l0 k y0 y1 y2 y3) (spec_l30Steps.l0 (k + 1) y0 y1 y2 y3))
  | 0 => fun _ _ _ _ r h => by simp [spec_l30Steps.l0] at h
  | k + 1 => by
    have ih0 := spec_l30Steps.mono_l k
    · intro y0 y1 y2 y3
      unfold spec_l30Steps.l0
      repeat' first | (with_reducible first | exact ih0 _ _ _ _ | exact spec_l30Rd_pick.mono _ _ _ _ | exact LeO.refl _ | exact LeO.none _ | refine LeO.ite ?_ ?_ | refine LeO.bind ?_ (fun _ => ?_)) | exact ih0 _ _ _ _ | exact spec_l30Rd_pick.mono _ _ _ _ | exact LeO.none _ | refine LeO.ite ?_ ?_ | refine LeO.bind ?_ (fun _ => ?_)
theorem spec_l30Steps.mono : ∀ a0 a1 a2 k, LeO (spec_l30Steps.f k a0 a1 a2) (spec_l30Steps.f (k + 1) a0 a1 a2) := by
  intro a0 a1 a2 k
  have ih0 := spec_l30Steps.mono_l k
  unfold spec_l30Steps.f
  repeat' first | (with_reducible first | exact ih0 _ _ _ _ | exact spec_l30Rd_pick.mono _ _ _ _ | exact LeO.refl _ | exact LeO.none _ | refine LeO.ite ?_ ?_ | refine LeO.bind ?_ (fun _ => ?_)) | exact ih0 _ _ _ _ | exact spec_l30Rd_pick.mono _ _ _ _ | exact LeO.none _ | refine LeO.ite ?_ ?_ | refine LeO.bind ?_ (fun _ => ?_)
set_option maxHeartbeats 200000000 in
set_option maxRecDepth 100000 in
theorem spec_l30Steps.calls (k : Nat) (g : Nat) (s0_0 : List Int) (s0_1 : Int) (a1 : Int) (r1 : List (S36)) (r2 : Int) (w0 w : World) (hI : IsS68 w0 w g s0_0 s0_1) (hB : Below w0.heap.size w0 w) (h : spec_l30Steps.f k s0_0 s0_1 a1 = some (r1, r2)) :
    Calls Try.prog 42 #[.pointer (some ⟨g, 0, none⟩), .int .i64 a1] w fun e w' => ∃ v0_ : Value, e = .returned (v0_) ∧ Kd.R k36 36 w' w.heap.size (fun _ => True) v0_ r1 ∧ IsS68 w0 w' g s0_0 r2 ∧ Below w0.heap.size w0 w' ∧ KeepBut w w' g none := by
  have hu36 := Try.underlying36
  have HI0 := Aside0.mk hI
  have HK := Aside0.mk (KeepBut.refl w g none)
  have HL := Aside0.mk hB.size
  clear hI
  have HW0 := Aside0.mk hB.size
  have HB := Aside0.mk hB
  clear hB
  have H : ((spec_l30Rd_pick.f k s0_0 s0_1 (wrap64 (a1 + 1))).bind fun bt265 => (spec_l30Steps.l0 k (([] : List (S36))) bt265.1 s0_0 bt265.2)) = some (r1, r2) := h
  clear h
  obtain ⟨y262, hy262⟩ : ∃ y_ : List (S36), y_ = (([] : List (S36))) := ⟨_, rfl⟩
  replace H : ((spec_l30Rd_pick.f k s0_0 s0_1 (wrap64 (a1 + 1))).bind fun bt265 => (spec_l30Steps.l0 k y262 bt265.1 s0_0 bt265.2)) = some (r1, r2) := by first | (rw [hy262]; with_reducible exact H) | (have H2_ := (Option.bind_some _ _).symm.trans H; rw [hy262]; with_reducible exact H2_) | (have H2_ := (Option.bind_some _ _).symm.trans H; with_reducible exact H2_) | with_reducible exact H | (rw [hy262]; exact H) | exact H
  have Ny262 := Aside0.mk hy262
  clear hy262
  replace H := Option.bind_eq_some_iff.mp H
  obtain ⟨⟨t265, t266⟩, A30, H⟩ := H
  replace H : (spec_l30Steps.l0 k y262 t265 s0_0 t266) = some (r1, r2) := H
  have A3 := Aside0.mk A30
  clear A30
  have H' := Aside0.mk H
  clear H
  go_enter Try.func42, Try.ntmps42
  go_wp2_with (first | ((with_reducible refine gate_dst (N := 8) rfl ?_); refine Kd.R_lit k36 _ 36 ?hg (N := 8) ?hd (xs := ([] : List (S36))) (inner := []) (ok := fun _ => True) (okp := fun _ => True) ?hr ?hp (fun _ hk => hk) trivial (Below.refl _ _) (Nat.le_refl _) (by simp) ?_; (case hd => rfl); (case hg => rfl); (case hr => first | (go_simp; done) | (go_simp; rfl)); (case hp => exact (Reps.none _ _)); intro v263 w4 ho5 hb hg_ hnew_; clear hg_ hnew_; (first | rw [← Ny262.out] at ho5 | (simp only [Int.reduceToNat] at ho5; rw [← Ny262.out] at ho5)); have HO264 := Aside0.mk (Kd.R_lower ho5 (keep_size (w := w) (g := g) (row := none) (nk_ HK.out))); replace HI0 := Aside0.mk (IsS68.below (ni68_42 HI0.out) hb); replace HK := Aside0.mk (KeepBut.trans (nk_ HK.out) (KeepBut.of_below hb g none) (.inl rfl)); replace HB := Aside0.mk (below_step (ng68_42 HB.out) hb); clear hb ho5) | ((with_reducible refine gate_callee (f := 44) rfl ?_); refine gl_ (some 12) Try.func44 #[.pointer (some ⟨g, 0, none⟩), .int .i64 (wrap64 (a1 + 1))] ?_; (with_reducible refine (spec_l30Rd_pick.calls k g s0_0 s0_1 (wrap64 (a1 + 1)) t265 t266 w0 _ ?side1 ?side2 A3.out).mono ?_); (case side1 => exact (ni68_42 HI0.out)); (case side2 => exact (ng68_42 HB.out)); rintro e w6 ⟨rfl, hi, hb, hk⟩; refine ⟨_, rfl, ?_⟩; replace HO264 := Aside0.mk (Kd.R_mono (Kd.R_keep (IsS68.apart (show IsS68 w0 _ g s0_0 s0_1 from ni68_42 HI0.out) (nr_ HO264.out) (by decide)) hk (fun _ h => h.2)) (fun _ h => h.1)); replace HK := Aside0.mk (KeepBut.trans (nk_ HK.out) hk (.inl rfl)); replace HB := Aside0.mk (hb); replace HI0 := Aside0.mk (hi); (try clear hb); (try clear hb2); (try clear hk); (try clear hi)))
  go_loopg [5, 6] k (fun kq v5 v6 w' => ∃ (x5_1 : List (S36)) (x6_1 : Int) (x1001_1 : Int), v6 = .int .i64 x6_1 ∧ Aside0 (spec_l30Steps.l0 kq x5_1 x6_1 s0_0 x1001_1 = some (r1, r2)) ∧ Aside0 (kq ≤ k) ∧ Aside0 (Kd.R k36 36 w' w.heap.size (fun _ => True) v5 x5_1) ∧ Aside0 (IsS68 w0 w' g s0_0 x1001_1) ∧ Aside0 (KeepBut w w' g none) ∧ Aside0 (Below w0.heap.size w0 w'))
  case atStart => exact ⟨(y262), (t265), (t266), ns_, H', ⟨Nat.le_refl _⟩, ⟨nr_ HO264.out⟩, ⟨ni68_42 HI0.out⟩, ⟨nk_ HK.out⟩, ⟨by repeat (first | (with_reducible first | exact HB.out | apply below_alloc | apply pw_below_drewN | apply below_drew1 | refine below_set ?_ (IsS68.ge HI0.out)) | exact HB.out)⟩⟩
  case round =>
   clear H'
   obtain ⟨x5_1, x6_1, x1001_1, rfl, HA, HK1, HO_5, HI0, HK, HB⟩ := hrel
   cases gk with
   | zero => exact absurd HA.out (by simp [spec_l30Steps.l0])
   | succ k1 =>
    have H := HA.out
    clear HA
    simp only [spec_l30Steps.l0] at H
    by_cases c7 : x6_1 > 0
    rotate_left
    ·rw [if_neg c7] at H
     have c7b0 : decide (0 < x6_1) = false := decide_eq_false c7
     clear c7
     simp only [Option.some.injEq, Prod.mk.injEq] at H
     obtain ⟨rfl, rfl⟩ := H
     go_wp2
     go_ret
     exact ⟨_, nw_, nr_ HO_5.out, ni68_42 HI0.out, by repeat (first | (with_reducible first | exact HB.out | apply below_alloc | apply pw_below_drewN | apply below_drew1 | refine below_set ?_ (IsS68.ge HI0.out)) | exact HB.out), nk_ HK.out⟩

    rw [if_pos c7] at H
    have c7b0 : decide (0 < x6_1) = true := decide_eq_true c7
    clear c7
    replace H := Option.bind_eq_some_iff.mp H
    obtain ⟨⟨t267, t268⟩, A80, H⟩ := H
    try dsimp only at H
    have A8 := Aside0.mk A80
    clear A80
    replace H := Option.bind_eq_some_iff.mp H
    obtain ⟨⟨t269, t270⟩, A90, H⟩ := H
    try dsimp only at H
    have A9 := Aside0.mk A90
    clear A90
    by_cases c10 : x5_1.length < 8796093022208
    rotate_left
    ·rw [if_neg c10] at H
     exact absurd H (by simp)
    rw [if_pos c10] at H
    have LMc10 := Aside0.mk c10
    clear c10
    obtain ⟨y271, hy271⟩ : ∃ y_ : List (S36), y_ = (x5_1 ++ [(⟨t267, wrap64 (t267 + t269)⟩ : S36)]) := ⟨_, rfl⟩
    replace H : (spec_l30Steps.l0 k1 y271 (wrap64 (x6_1 - 1)) s0_0 t270) = some (r1, r2) := by first | (rw [hy271]; with_reducible exact H) | (have H2_ := (Option.bind_some _ _).symm.trans H; rw [hy271]; with_reducible exact H2_) | (have H2_ := (Option.bind_some _ _).symm.trans H; with_reducible exact H2_) | with_reducible exact H | (rw [hy271]; exact H) | exact H
    have Ny271 := Aside0.mk hy271
    clear hy271
    have H' := Aside0.mk H
    clear H
    go_wp2_with (first | ((with_reducible refine gate_callee (f := 44) rfl ?_); refine gl_ (some 18) Try.func44 #[.pointer (some ⟨g, 0, none⟩), .int .i64 60] ?_; (with_reducible refine (spec_l30Rd_pick.calls k1 g s0_0 x1001_1 60 t267 t268 w0 _ ?side1 ?side2 A8.out).mono ?_); (case side1 => exact (ni68_42 HI0.out)); (case side2 => exact (ng68_42 HB.out)); rintro e w11 ⟨rfl, hi, hb, hk⟩; refine ⟨_, rfl, ?_⟩; replace HO_5 := Aside0.mk (Kd.R_mono (Kd.R_keep (IsS68.apart (show IsS68 w0 _ g s0_0 x1001_1 from ni68_42 HI0.out) (nr_ HO_5.out) (by decide)) hk (fun _ h => h.2)) (fun _ h => h.1)); replace HK := Aside0.mk (KeepBut.trans (nk_ HK.out) hk (.inl rfl)); replace HB := Aside0.mk (hb); replace HI0 := Aside0.mk (hi); (try clear hb); (try clear hb2); (try clear hk); (try clear hi)) | ((with_reducible refine gate_callee (f := 44) rfl ?_); refine gl_ (some 23) Try.func44 #[.pointer (some ⟨g, 0, none⟩), .int .i64 40] ?_; (with_reducible refine (spec_l30Rd_pick.calls k1 g s0_0 t268 40 t269 t270 w0 _ ?side1 ?side2 A9.out).mono ?_); (case side1 => exact (ni68_42 HI0.out)); (case side2 => exact (ng68_42 HB.out)); rintro e w12 ⟨rfl, hi, hb, hk⟩; refine ⟨_, rfl, ?_⟩; replace HO_5 := Aside0.mk (Kd.R_mono (Kd.R_keep (IsS68.apart (show IsS68 w0 _ g s0_0 t268 from ni68_42 HI0.out) (nr_ HO_5.out) (by decide)) hk (fun _ h => h.2)) (fun _ h => h.1)); replace HK := Aside0.mk (KeepBut.trans (nk_ HK.out) hk (.inl rfl)); replace HB := Aside0.mk (hb); replace HI0 := Aside0.mk (hi); (try clear hb); (try clear hb2); (try clear hk); (try clear hi)) | ((with_reducible refine gate_builtin (b := .append) (xs := #[.tmp 19, .tmp 26]) rfl ?_); at_builtin; refine Kd.R_append k36 w.heap.size rfl (.tmp 19) (.tmp 26) 22 36 (.agg #[(.int .i64 0), (.int .i64 0)]) 16 rfl Try.underlying22 info36 rfl (by decide) (by omega) u5 x5_1 (⟨t267, wrap64 (t267 + t269)⟩ : S36) [.int .i64 t267, .int .i64 (wrap64 (t267 + t269))] (fun _ => True) (fun _ => False) rfl rfl ?aP (fun _ hk => hk.elim) ?aF ?aO (Below.refl _ _) ?aS ?aL ?_; (case aP => exact k36_mkM _ _ _ (⟨t267, wrap64 (t267 + t269)⟩ : S36)); (case aF => exact (fun _ _ => trivial)); (case aO => exact (nr_ HO_5.out)); (case aS => exact (keep_size (w := w) (g := g) (row := none) (nk_ HK.out))); (case aL => have := LMc10.out; omega); intro v272 w13 ho hb hg hat; rw [← Ny271.out] at ho; have HO273 := Aside0.mk (ho); replace HI0 := Aside0.mk (IsS68.grown (show IsS68 w0 _ g s0_0 t270 from ni68_42 HI0.out) hg (IsS68.own_ne HI0.out HO_5.out (by decide))); replace HB := Aside0.mk (below_weaken (ng68_42 HB.out) HL.out hb); replace HK := Aside0.mk (KeepBut.trans (nk_ HK.out) (KeepBut.of_grown hg g) (Kd.R_base2 HO_5.out)); clear HO_5; clear ho hb hg hat))
    go_roundg k1
    case measure => have := HK1.out; omega
    case rel => exact ⟨(y271), (wrap64 (x6_1 - 1)), (t270), ns_, H', ⟨by have := HK1.out; omega⟩, ⟨nr_ HO273.out⟩, ⟨ni68_42 HI0.out⟩, ⟨nk_ HK.out⟩, ⟨by repeat (first | (with_reducible first | exact HB.out | apply below_alloc | apply pw_below_drewN | apply below_drew1 | refine below_set ?_ (IsS68.ge HI0.out)) | exact HB.out)⟩⟩
end Go.Proofs.Ytfpfaaibgaejjaa.Print
