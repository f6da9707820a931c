-- Made by this session's own program (wip/patch_print.py, over the kit's print). Lean checks it.
import Derived.Test.YtfpfaaibgaejjaaPrint0
import Derived.Test.YtfpfaaibgaejjaaPrintB
import Derived.Test.YtfpfaaibgaejjaaPrintF43
import Derived.Test.YtfpfaaibgaejjaaPrintF44
import Derived.Test.YtfpfaaibgaejjaaPrintF57
namespace Go.Proofs.Ytfpfaaibgaejjaa.Print
open Go.RowKit Go.Proofs.YtfpfaaibgaejjaaW.PrintWords Go.Proofs.YtfpfaaibgaejjaaW.PrintLast Go.Proofs.YtfpfaaibgaejjaaW.PrintMore Go.Proofs.YtfpfaaibgaejjaaX
attribute [local go_sem] max2_int min2_int max_two min_two max_three min_three max_four min_four   -- for this text's walks alone
set_option linter.unusedVariables false
set_option linter.unusedSimpArgs false

theorem ng68_46 {B : Nat} {w W W' : World} (h : Below B w W) (e : Below B w W → Below B w W' := by intro h_; repeat (first | (with_reducible first | exact h_ | apply below_alloc | apply pw_below_drewN | apply below_drew1 | refine below_set ?_ (IsS68.ge (Aside0.out (by with_reducible assumption))) | refine below_set ?_ (Aside0.out (by with_reducible assumption))) | exact h_)) : Below B w W' := e h
theorem ni68_46 {p q : Prop} (h : p) (e : p → q := by intro h_; repeat (first | (with_reducible first | exact h_ | apply IsS68.alloc | apply IsS68.drewN | apply IsS68.drew | apply IsS68.set_1 | refine IsS68.far ?_ (Aside0.out (by with_reducible assumption)) _) | exact h_)) : q := e h
/-! ### spec_l30AnyStair: function 46 -/
def spec_l30AnyStair.f (k : Nat) (s0_0 : List Int) (s0_1 : Int) : Option ((List (S36)) × Int) := (spec_l30Stair.f k s0_0 s0_1).bind fun bt355 => ((spec_l30Rd_pick.f k s0_0 bt355.2 12).bind fun bt359 => (if bt359.1 = 0 then ((spec_l30Rd_one.f k s0_0 bt359.2 (([(-1), 5, 200] : List Int))).bind fun bt364 => ((spec_l30Rd_pick.f k s0_0 bt364.2 210).bind fun bt366 => (if bt355.1.length < 8796093022208 then (some ((bt355.1 ++ [(⟨bt364.1, bt366.1⟩ : S36)]), bt366.2)) else (none)))) else (some (bt355.1, bt359.2))))
theorem spec_l30AnyStair.mono : ∀ a0 a1 k, LeO (spec_l30AnyStair.f k a0 a1) (spec_l30AnyStair.f (k + 1) a0 a1) := by
  intro a0 a1 k
  unfold spec_l30AnyStair.f
  repeat' first | (with_reducible first | exact spec_l30Rd_one.mono _ _ _ _ | exact spec_l30Rd_pick.mono _ _ _ _ | exact spec_l30Stair.mono _ _ _ | exact LeO.refl _ | exact LeO.none _ | refine LeO.ite ?_ ?_ | refine LeO.bind ?_ (fun _ => ?_)) | exact spec_l30Rd_one.mono _ _ _ _ | exact spec_l30Rd_pick.mono _ _ _ _ | exact spec_l30Stair.mono _ _ _ | exact LeO.none _ | refine LeO.ite ?_ ?_ | refine LeO.bind ?_ (fun _ => ?_)
set_option maxHeartbeats 200000000 in
set_option maxRecDepth 100000 in
theorem spec_l30AnyStair.calls (k : Nat) (g : Nat) (s0_0 : List Int) (s0_1 : Int) (r1 : List (S36)) (r2 : Int) (w0 w : World) (hI : IsS68 w0 w g s0_0 s0_1) (hB : Below w0.heap.size w0 w) (h : spec_l30AnyStair.f k s0_0 s0_1 = some (r1, r2)) :
    Calls Try.prog 46 #[.pointer (some ⟨g, 0, none⟩)] w fun e w' => ∃ v0_ : Value, e = .returned (v0_) ∧ Kd.R k36 36 w' w.heap.size (fun _ => True) v0_ r1 ∧ IsS68 w0 w' g s0_0 r2 ∧ Below w0.heap.size w0 w' ∧ KeepBut w w' g none := by
  have hu36 := Try.underlying36
  have HI0 := Aside0.mk hI
  have HK := Aside0.mk (KeepBut.refl w g none)
  have HL := Aside0.mk hB.size
  clear hI
  have HW0 := Aside0.mk hB.size
  have HB := Aside0.mk hB
  clear hB
  have H : ((spec_l30Stair.f k s0_0 s0_1).bind fun bt355 => ((spec_l30Rd_pick.f k s0_0 bt355.2 12).bind fun bt359 => (if bt359.1 = 0 then ((spec_l30Rd_one.f k s0_0 bt359.2 (([(-1), 5, 200] : List Int))).bind fun bt364 => ((spec_l30Rd_pick.f k s0_0 bt364.2 210).bind fun bt366 => (if bt355.1.length < 8796093022208 then (some ((bt355.1 ++ [(⟨bt364.1, bt366.1⟩ : S36)]), bt366.2)) else (none)))) else (some (bt355.1, bt359.2))))) = some (r1, r2) := h
  clear h
  replace H := Option.bind_eq_some_iff.mp H
  obtain ⟨⟨t355, t358⟩, A20, H⟩ := H
  try dsimp only at H
  have A2 := Aside0.mk A20
  clear A20
  replace H := Option.bind_eq_some_iff.mp H
  obtain ⟨⟨t359, t360⟩, A30, H⟩ := H
  try dsimp only at H
  have A3 := Aside0.mk A30
  clear A30
  by_cases c4 : t359 = 0
  rotate_left
  ·rw [if_neg c4] at H
   have c4b0 : (t359 == 0) = false := beq_eq_false_iff_ne.mpr c4
   have c4b1 : (t359 != 0) = true := bne_iff_ne.mpr c4
   simp only [Option.some.injEq, Prod.mk.injEq] at H
   obtain ⟨rfl, rfl⟩ := H
   go_enter Try.func46, Try.ntmps46
   go_wp2_with (first | ((with_reducible refine gate_callee (f := 57) rfl ?_); refine gl_ (some 5) Try.func57 #[.pointer (some ⟨g, 0, none⟩)] ?_; (with_reducible refine (spec_l30Stair.calls k g s0_0 s0_1 t355 t358 w0 _ ?side1 ?side2 A2.out).mono ?_); (case side1 => exact (ni68_46 HI0.out)); (case side2 => exact (ng68_46 HB.out)); rintro e w16 ⟨v356, rfl, ho0, hi, hb, hk⟩; refine ⟨_, rfl, ?_⟩; have HO357 := Aside0.mk (Kd.R_lower ho0 (keep_size (w := w) (g := g) (row := none) (nk_ HK.out))); replace HK := Aside0.mk (KeepBut.trans (nk_ HK.out) hk (.inl rfl)); replace HB := Aside0.mk (hb); replace HI0 := Aside0.mk (hi); (try clear hb); (try clear hb2); (try clear hk); (try clear hi); (try clear ho0)) | ((with_reducible refine gate_callee (f := 44) rfl ?_); refine gl_ (some 7) Try.func44 #[.pointer (some ⟨g, 0, none⟩), .int .i64 12] ?_; (with_reducible refine (spec_l30Rd_pick.calls k g s0_0 t358 12 t359 t360 w0 _ ?side1 ?side2 A3.out).mono ?_); (case side1 => exact (ni68_46 HI0.out)); (case side2 => exact (ng68_46 HB.out)); rintro e w17 ⟨rfl, hi, hb, hk⟩; refine ⟨_, rfl, ?_⟩; replace HO357 := Aside0.mk (Kd.R_mono (Kd.R_keep (IsS68.apart (show IsS68 w0 _ g s0_0 t358 from ni68_46 HI0.out) (nr_ HO357.out) (by decide)) hk (fun _ h => h.2)) (fun _ h => h.1)); replace HK := Aside0.mk (KeepBut.trans (nk_ HK.out) hk (.inl rfl)); replace HB := Aside0.mk (hb); replace HI0 := Aside0.mk (hi); (try clear hb); (try clear hb2); (try clear hk); (try clear hi)))
   go_ret
   exact ⟨_, nw_, nr_ HO357.out, ni68_46 HI0.out, by repeat (first | (with_reducible first | exact HB.out | apply below_alloc | apply pw_below_drewN | apply below_drew1 | refine below_set ?_ (IsS68.ge HI0.out)) | exact HB.out), nk_ HK.out⟩

  rw [if_pos c4] at H
  have c4b0 : (t359 == 0) = true := beq_iff_eq.mpr c4
  have c4b1 : (t359 != 0) = false := bne_eq_false_iff_eq.mpr c4
  clear c4
  obtain ⟨y361, hy361⟩ : ∃ y_ : List Int, y_ = (([(-1), 5, 200] : List Int)) := ⟨_, rfl⟩
  replace H : ((spec_l30Rd_one.f k s0_0 t360 y361).bind fun bt364 => ((spec_l30Rd_pick.f k s0_0 bt364.2 210).bind fun bt366 => (if t355.length < 8796093022208 then (some ((t355 ++ [(⟨bt364.1, bt366.1⟩ : S36)]), bt366.2)) else (none)))) = some (r1, r2) := by first | (rw [hy361]; with_reducible exact H) | (have H2_ := (Option.bind_some _ _).symm.trans H; rw [hy361]; with_reducible exact H2_) | (have H2_ := (Option.bind_some _ _).symm.trans H; with_reducible exact H2_) | with_reducible exact H | (rw [hy361]; exact H) | exact H
  have Ny361 := Aside0.mk hy361
  clear hy361
  replace H := Option.bind_eq_some_iff.mp H
  obtain ⟨⟨t364, t365⟩, A50, H⟩ := H
  try dsimp only at H
  have A5 := Aside0.mk A50
  clear A50
  replace H := Option.bind_eq_some_iff.mp H
  obtain ⟨⟨t366, t367⟩, A60, H⟩ := H
  replace H : (if t355.length < 8796093022208 then (some ((t355 ++ [(⟨t364, t366⟩ : S36)]), t367)) else (none)) = some (r1, r2) := H
  have A6 := Aside0.mk A60
  clear A60
  by_cases c7 : t355.length < 8796093022208
  rotate_left
  ·rw [if_neg c7] at H
   exact absurd H (by simp)
  rw [if_pos c7] at H
  have LMc7 := Aside0.mk c7
  clear c7
  obtain ⟨y368, hy368⟩ : ∃ y_ : List (S36), y_ = (t355 ++ [(⟨t364, t366⟩ : S36)]) := ⟨_, rfl⟩
  replace H : (some (y368, t367)) = some (r1, r2) := by first | (rw [hy368]; with_reducible exact H) | (have H2_ := (Option.bind_some _ _).symm.trans H; rw [hy368]; with_reducible exact H2_) | (have H2_ := (Option.bind_some _ _).symm.trans H; with_reducible exact H2_) | with_reducible exact H | (rw [hy368]; exact H) | exact H
  have Ny368 := Aside0.mk hy368
  clear hy368
  simp only [Option.some.injEq, Prod.mk.injEq] at H
  obtain ⟨rfl, rfl⟩ := H
  go_enter Try.func46, Try.ntmps46
  go_wp2_with (first | ((with_reducible refine gate_callee (f := 57) rfl ?_); refine gl_ (some 5) Try.func57 #[.pointer (some ⟨g, 0, none⟩)] ?_; (with_reducible refine (spec_l30Stair.calls k g s0_0 s0_1 t355 t358 w0 _ ?side1 ?side2 A2.out).mono ?_); (case side1 => exact (ni68_46 HI0.out)); (case side2 => exact (ng68_46 HB.out)); rintro e w8 ⟨v356, rfl, ho0, hi, hb, hk⟩; refine ⟨_, rfl, ?_⟩; have HO357 := Aside0.mk (Kd.R_lower ho0 (keep_size (w := w) (g := g) (row := none) (nk_ HK.out))); replace HK := Aside0.mk (KeepBut.trans (nk_ HK.out) hk (.inl rfl)); replace HB := Aside0.mk (hb); replace HI0 := Aside0.mk (hi); (try clear hb); (try clear hb2); (try clear hk); (try clear hi); (try clear ho0)) | ((with_reducible refine gate_callee (f := 44) rfl ?_); refine gl_ (some 7) Try.func44 #[.pointer (some ⟨g, 0, none⟩), .int .i64 12] ?_; (with_reducible refine (spec_l30Rd_pick.calls k g s0_0 t358 12 t359 t360 w0 _ ?side1 ?side2 A3.out).mono ?_); (case side1 => exact (ni68_46 HI0.out)); (case side2 => exact (ng68_46 HB.out)); rintro e w9 ⟨rfl, hi, hb, hk⟩; refine ⟨_, rfl, ?_⟩; replace HO357 := Aside0.mk (Kd.R_mono (Kd.R_keep (IsS68.apart (show IsS68 w0 _ g s0_0 t358 from ni68_46 HI0.out) (nr_ HO357.out) (by decide)) hk (fun _ h => h.2)) (fun _ h => h.1)); replace HK := Aside0.mk (KeepBut.trans (nk_ HK.out) hk (.inl rfl)); replace HB := Aside0.mk (hb); replace HI0 := Aside0.mk (hi); (try clear hb); (try clear hb2); (try clear hk); (try clear hi)) | ((with_reducible refine gate_dst (N := 11) rfl ?_); refine li_ 11 3 [(-1), 5, 200] [.int .i64 (-1), .int .i64 5, .int .i64 200] ?_; intro v362 w10 ho11 hb hg_ hnew_; clear hg_ hnew_; (first | rw [← Ny361.out] at ho11 | (simp only [Int.reduceToNat] at ho11; rw [← Ny361.out] at ho11)); have HO363 := Aside0.mk (Kd.R_lower ho11 (keep_size (w := w) (g := g) (row := none) (nk_ HK.out))); replace HO357 := kR_ HO357 hb; replace HI0 := Aside0.mk (IsS68.below (ni68_46 HI0.out) hb); replace HK := Aside0.mk (KeepBut.trans (nk_ HK.out) (KeepBut.of_below hb g none) (.inl rfl)); replace HB := Aside0.mk (below_step (ng68_46 HB.out) hb); clear hb ho11; obtain ⟨Ao12, co12, eo12⟩ := Kd.R_slice HO363.out; subst eo12) | ((with_reducible refine gate_callee (f := 43) rfl ?_); refine gl_ (some 12) Try.func43 #[.pointer (some ⟨g, 0, none⟩), .slice Ao12 y361.length co12] ?_; (with_reducible refine (spec_l30Rd_one.calls k g s0_0 t360 _ _ y361 t364 t365 w0 _ ?side1 ?side2 ?side3 ?side4 ?side5 A5.out).mono ?_); (case side1 => exact (ni68_46 HI0.out)); (case side2 => exact (ng68_46 HB.out)); (case side3 => exact nc_ (Kd.R_reads' HO363.out).2.2); (case side4 => exact (Kd.R_reads' HO363.out).2.1); (case side5 => exact far_slice (IsS68.own_ne HI0.out HO363.out (by decide))); rintro e w13 ⟨rfl, hi, hb, hk⟩; refine ⟨_, rfl, ?_⟩; replace HO357 := Aside0.mk (Kd.R_mono (Kd.R_keep (IsS68.apart (show IsS68 w0 _ g s0_0 t360 from ni68_46 HI0.out) (nr_ HO357.out) (by decide)) hk (fun _ h => h.2)) (fun _ h => h.1)); replace HO363 := Aside0.mk (Kd.R_mono (Kd.R_keep (IsS68.apart (show IsS68 w0 _ g s0_0 t360 from ni68_46 HI0.out) (nr_ HO363.out) (by decide)) hk (fun _ h => h.2)) (fun _ h => h.1)); replace HK := Aside0.mk (KeepBut.trans (nk_ HK.out) hk (.inl rfl)); replace HB := Aside0.mk (hb); replace HI0 := Aside0.mk (hi); (try clear hb); (try clear hb2); (try clear hk); (try clear hi)) | ((with_reducible refine gate_callee (f := 44) rfl ?_); refine gl_ (some 14) Try.func44 #[.pointer (some ⟨g, 0, none⟩), .int .i64 210] ?_; (with_reducible refine (spec_l30Rd_pick.calls k g s0_0 t365 210 t366 t367 w0 _ ?side1 ?side2 A6.out).mono ?_); (case side1 => exact (ni68_46 HI0.out)); (case side2 => exact (ng68_46 HB.out)); rintro e w14 ⟨rfl, hi, hb, hk⟩; refine ⟨_, rfl, ?_⟩; replace HO357 := Aside0.mk (Kd.R_mono (Kd.R_keep (IsS68.apart (show IsS68 w0 _ g s0_0 t365 from ni68_46 HI0.out) (nr_ HO357.out) (by decide)) hk (fun _ h => h.2)) (fun _ h => h.1)); replace HO363 := Aside0.mk (Kd.R_mono (Kd.R_keep (IsS68.apart (show IsS68 w0 _ g s0_0 t365 from ni68_46 HI0.out) (nr_ HO363.out) (by decide)) hk (fun _ h => h.2)) (fun _ h => h.1)); replace HK := Aside0.mk (KeepBut.trans (nk_ HK.out) hk (.inl rfl)); replace HB := Aside0.mk (hb); replace HI0 := Aside0.mk (hi); (try clear hb); (try clear hb2); (try clear hk); (try clear hi)) | ((with_reducible refine gate_builtin (b := .append) (xs := #[.tmp 9, .tmp 16]) rfl ?_); at_builtin; refine Kd.R_append k36 w.heap.size rfl (.tmp 9) (.tmp 16) 22 36 (.agg #[(.int .i64 0), (.int .i64 0)]) 16 rfl Try.underlying22 info36 rfl (by decide) (by omega) v356 t355 (⟨t364, t366⟩ : S36) [.int .i64 t364, .int .i64 t366] (fun _ => True) (fun _ => False) rfl rfl ?aP (fun _ hk => hk.elim) ?aF ?aO (Below.refl _ _) ?aS ?aL ?_; (case aP => exact k36_mkM _ _ _ (⟨t364, t366⟩ : S36)); (case aF => exact (fun _ _ => trivial)); (case aO => exact (nr_ HO357.out)); (case aS => exact (keep_size (w := w) (g := g) (row := none) (nk_ HK.out))); (case aL => have := LMc7.out; omega); intro v369 w15 ho hb hg hat; rw [← Ny368.out] at ho; have HO370 := Aside0.mk (ho); replace HI0 := Aside0.mk (IsS68.grown (show IsS68 w0 _ g s0_0 t367 from ni68_46 HI0.out) hg (IsS68.own_ne HI0.out HO357.out (by decide))); replace HO363 := Aside0.mk (Kd.R_over' (nr_ HO363.out) (Kd.R_typed (nr_ HO357.out)) (by decide) hg); replace HB := Aside0.mk (below_weaken (ng68_46 HB.out) HL.out hb); replace HK := Aside0.mk (KeepBut.trans (nk_ HK.out) (KeepBut.of_grown hg g) (Kd.R_base2 HO357.out)); clear HO357; clear ho hb hg hat))
  go_ret
  exact ⟨_, nw_, nr_ HO370.out, ni68_46 HI0.out, by repeat (first | (with_reducible first | exact HB.out | apply below_alloc | apply pw_below_drewN | apply below_drew1 | refine below_set ?_ (IsS68.ge HI0.out)) | exact HB.out), nk_ HK.out⟩
end Go.Proofs.Ytfpfaaibgaejjaa.Print
