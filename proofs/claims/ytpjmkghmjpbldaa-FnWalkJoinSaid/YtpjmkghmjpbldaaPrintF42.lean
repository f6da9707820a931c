-- Made by this session's own program (wip/patch_print.py, over the kit's print). Lean checks it.
import Derived.Test.YtpjmkghmjpbldaaPrint0
import Derived.Test.YtpjmkghmjpbldaaPrintF68
import Derived.Test.YtpjmkghmjpbldaaPrintF69
import Derived.Test.YtpjmkghmjpbldaaPrintF82
import Derived.Test.YtpjmkghmjpbldaaPrintF88
namespace Go.Proofs.Ytpjmkghmjpbldaa.Print
open Go.RowKit Go.Proofs.YtpjmkghmjpbldaaW.PrintWords Go.Proofs.YtpjmkghmjpbldaaW.PrintLast Go.Proofs.YtpjmkghmjpbldaaW.PrintMore Go.Proofs.YtpjmkghmjpbldaaX
attribute [local go_sem] max2_int min2_int max_two min_two max_three min_three max_four min_four   -- for this text's walks alone
set_option linter.unusedVariables false
set_option linter.unusedSimpArgs false

theorem ng106_42 {B : Nat} {w W W' : World} (h : Below B w W) (e : Below B w W → Below B w W' := by intro h_; repeat (first | (with_reducible first | exact h_ | apply below_alloc | apply pw_below_drewN | apply below_drew1 | refine below_set ?_ (IsS106.ge (Aside0.out (by with_reducible assumption))) | refine below_set ?_ (Aside0.out (by with_reducible assumption))) | exact h_)) : Below B w W' := e h
theorem ni106_42 {p q : Prop} (h : p) (e : p → q := by intro h_; repeat (first | (with_reducible first | exact h_ | apply IsS106.alloc | apply IsS106.drewN | apply IsS106.drew | apply IsS106.set_1 | refine IsS106.far ?_ (Aside0.out (by with_reducible assumption)) _) | exact h_)) : q := e h
/-! ### spec_DrawWalkOk: function 42 -/
def spec_DrawWalkOk.f (k : Nat) (l0 : List Int) : Option (Int × (List (S37)) × List Int) := (spec_l30Open.f l0).bind fun bt615 => ((spec_l30AnyNet.f k bt615.1 bt615.2).bind fun bt618 => ((spec_l30AnyWalk.f k bt615.1 bt618.2.2 bt618.1 bt618.2.1).bind fun bt624 => (some (bt618.1, bt618.2.1, bt624.1))))
theorem spec_DrawWalkOk.mono : ∀ a0 k, LeO (spec_DrawWalkOk.f k a0) (spec_DrawWalkOk.f (k + 1) a0) := by
  intro a0 k
  unfold spec_DrawWalkOk.f
  repeat' first | (with_reducible first | exact spec_l30AnyNet.mono _ _ _ | exact spec_l30AnyWalk.mono _ _ _ _ _ | exact LeO.refl _ | exact LeO.none _ | refine LeO.ite ?_ ?_ | refine LeO.bind ?_ (fun _ => ?_)) | exact spec_l30AnyNet.mono _ _ _ | exact spec_l30AnyWalk.mono _ _ _ _ _ | exact LeO.none _ | refine LeO.ite ?_ ?_ | refine LeO.bind ?_ (fun _ => ?_)
set_option maxHeartbeats 200000000 in
set_option maxRecDepth 100000 in
theorem spec_DrawWalkOk.calls (k : Nat) (A0 : Option Addr) (c0 : Nat) (l0 : List Int) (r1 : Int) (r2 : List (S37)) (r3 : List Int) (w : World) (hr0 : Kd.C (Kd.int .u8) w A0 l0.length l0) (hc0 : l0.length ≤ c0) (h : spec_DrawWalkOk.f k l0 = some (r1, r2, r3)) :
    Calls Try.prog 42 #[.slice A0 l0.length c0] w fun e w' => ∃ v1_ v2_ : Value, e = .returned (.tuple #[.agg #[.int .i64 r1, v1_], v2_]) ∧ Kd.R k37 37 w' w.heap.size (fun _ => True) v1_ r2 ∧ Kd.R (Kd.int .i64) 3 w' w.heap.size (fun _ => True) v2_ r3 ∧ Below w.heap.size w w' := by
  have hu29 := Try.underlying29
  have HR0 := Aside0.mk hr0
  have HC0 := Aside0.mk hc0
  clear hr0 hc0
  have HB := Aside0.mk (Below.refl w.heap.size w)
  have H : ((spec_l30Open.f l0).bind fun bt615 => ((spec_l30AnyNet.f k bt615.1 bt615.2).bind fun bt618 => ((spec_l30AnyWalk.f k bt615.1 bt618.2.2 bt618.1 bt618.2.1).bind fun bt624 => (some (bt618.1, bt618.2.1, bt624.1))))) = some (r1, r2, r3) := h
  clear h
  replace H := Option.bind_eq_some_iff.mp H
  obtain ⟨⟨t615, t616⟩, A20, H⟩ := H
  try dsimp only at H
  have A2 := Aside0.mk A20
  clear A20
  replace H := Option.bind_eq_some_iff.mp H
  obtain ⟨⟨t618, t619, t622⟩, A30, H⟩ := H
  replace H : ((spec_l30AnyWalk.f k t615 t622 t618 t619).bind fun bt624 => (some (t618, t619, bt624.1))) = some (r1, r2, r3) := H
  have A3 := Aside0.mk A30
  clear A30
  replace H := Option.bind_eq_some_iff.mp H
  obtain ⟨⟨t624, t627⟩, A40, H⟩ := H
  replace H : (some (t618, t619, t624)) = some (r1, r2, r3) := H
  have A4 := Aside0.mk A40
  clear A40
  simp only [Option.some.injEq, Prod.mk.injEq] at H
  obtain ⟨rfl, rfl, rfl⟩ := H
  go_enter Try.func42, Try.ntmps42
  try go_wp2_with (first | ((with_reducible refine gate_dst (N := 2) rfl ?_); refine bx_ 2 #[.int .i64 0, .slice none 0 0] 29 ?_; intro gb614 hg w5 hbox hb; have BK614 := Aside0.mk (hbox); have GW614 := Aside0.mk (zs_ hg (ne_ HB.out)); have GE614 := Aside0.mk (zs_ hg (ne_ HB.out)); replace HB := kB_ HB hb; clear hb hbox hg) | ((with_reducible refine gate_callee (f := 69) rfl ?_); refine gl_ (some 7) Try.func69 #[.slice A0 l0.length c0] ?_; (with_reducible refine (spec_l30Open.calls _ _ l0 t615 t616 w _ ?side1 ?side2 ?side3 A2.out).mono ?_); (case side1 => exact (ne_ HB.out)); (case side2 => exact HR0.out); (case side3 => exact HC0.out); rintro e w6 ⟨g617, rfl, hi, hb, hb2⟩; refine ⟨_, rfl, ?_⟩; have HI617 := Aside0.mk (hi); have NB617_614 := Aside0.mk (IsS106.ne_blk hi (blk_below (g := gb614) (o := .cells #[.int .i64 0, .slice none 0 0] 29 (0, 0)) (nb_ BK614.out) hb2) (by decide)); have NB614_617 := Aside0.mk (Ne.symm (IsS106.ne_blk hi (blk_below (g := gb614) (o := .cells #[.int .i64 0, .slice none 0 0] 29 (0, 0)) (nb_ BK614.out) hb2) (by decide))); replace BK614 := kb_ BK614 hb2; replace HB := Aside0.mk (hb); (try clear hb); (try clear hb2); (try clear hk); (try clear hi)) | ((with_reducible refine gate_callee (f := 68) rfl ?_); refine gl_ (some 9) Try.func68 #[.pointer (some ⟨g617, 0, none⟩)] ?_; (with_reducible refine (spec_l30AnyNet.calls k g617 t615 t616 t618 t619 t622 w _ ?side1 ?side2 A3.out).mono ?_); (case side1 => repeat (first | (with_reducible first | exact HI617.out | apply IsS106.alloc | apply IsS106.drewN | apply IsS106.drew | apply IsS106.set_1 | refine IsS106.far ?_ NB617_614.out _) | exact HI617.out)); (case side2 => exact (ng106_42 HB.out)); rintro e w7 ⟨v620, rfl, ho0, hi, hb, hk⟩; refine ⟨_, rfl, ?_⟩; have HO621 := Aside0.mk (Kd.R_lower ho0 (below_size (ng106_42 HB.out))); replace BK614 := kk_ BK614 hk NB614_617; replace HB := Aside0.mk (hb); replace HI617 := Aside0.mk (hi); (try clear hb); (try clear hb2); (try clear hk); (try clear hi); (try clear ho0)) | ((with_reducible refine gate_dst (N := 5) rfl ?_); refine bx_ 5 #[.int .i64 0, .slice none 0 0] 29 ?_; intro gb623 hg w8 hbox hb; have BK623 := Aside0.mk (hbox); have GW623 := Aside0.mk (zs_ hg (ng106_42 HB.out)); have GE623 := Aside0.mk (zs_ hg (ng106_42 HB.out)); have NB614_623 := Aside0.mk (nl_ BK614.out hg); have NB623_614 := Aside0.mk (nm_ BK614.out hg); have NB617_623 := Aside0.mk ((by rw [hg]; exact Nat.ne_of_lt (IsS106.lt (show IsS106 w _ g617 t615 t622 from ni106_42 HI617.out)) : g617 ≠ gb623)); have NB623_617 := Aside0.mk ((by rw [hg]; exact Nat.ne_of_gt (IsS106.lt (show IsS106 w _ g617 t615 t622 from ni106_42 HI617.out)) : gb623 ≠ g617)); replace HO621 := kR_ HO621 hb; replace BK614 := kb_ BK614 hb; replace HI617 := Aside0.mk (IsS106.below (ni106_42 HI617.out) hb); replace HB := Aside0.mk (below_step (ng106_42 HB.out) hb); clear hb hbox hg; have hnb9 := NB623_614.out; have hnc9 := NB614_623.out; have hnb10 := NB623_617.out; have hnc10 := NB617_623.out; obtain ⟨hcz11_0, hcz11_1, hfz11_0, hfz11_1⟩ := cz2_ BK623.out; obtain ⟨Ao12, co12, eo12⟩ := Kd.R_slice HO621.out; subst eo12))
  have n0_ : Aside0 (Kd.R k37 37 ((w8.setCell ⟨gb623, 0, none⟩ (.int .i64 t618)).setCell ⟨gb623, 1, none⟩ (.slice Ao12 t619.length co12)) w.heap.size (fun _ => True) (.slice Ao12 t619.length co12) t619) := ⟨by (with_reducible repeat (first | apply Kd.R_alloc | apply Kd.R_drewN | apply Kd.R_drew)); exact Kd.R_mono (rf2_ (Kd.R_types HO621.out BK623.out (by decide))) (fun _ hk => trivial)⟩
  have n1_ : Aside0 (((w8.setCell ⟨gb623, 0, none⟩ (.int .i64 t618)).setCell ⟨gb623, 1, none⟩ (.slice Ao12 t619.length co12)).heap[gb614]? = some (.cells #[.int .i64 0, .slice none 0 0] 29 (0, 0))) := ⟨np_ BK614.out⟩
  have n2_ : Aside0 (((w8.setCell ⟨gb623, 0, none⟩ (.int .i64 t618)).setCell ⟨gb623, 1, none⟩ (.slice Ao12 t619.length co12)).heap[gb623]? = some (.cells #[.int .i64 t618, .slice Ao12 t619.length co12] 29 (0, 0))) := ⟨np_ BK623.out⟩
  have n3_ : Aside0 (IsS106 w ((w8.setCell ⟨gb623, 0, none⟩ (.int .i64 t618)).setCell ⟨gb623, 1, none⟩ (.slice Ao12 t619.length co12)) g617 t615 t622) := ⟨ni106_42 HI617.out⟩
  have n4_ : Aside0 (Below w.heap.size w ((w8.setCell ⟨gb623, 0, none⟩ (.int .i64 t618)).setCell ⟨gb623, 1, none⟩ (.slice Ao12 t619.length co12))) := ⟨by repeat (first | (with_reducible first | exact HB.out | apply below_alloc | apply pw_below_drewN | apply below_drew1 | refine below_set ?_ (IsS106.ge HI617.out) | refine below_set ?_ GE614.out | refine below_set ?_ GE623.out) | exact HB.out)⟩
  (try clear HO621)
  (try clear BK614)
  (try clear BK623)
  (try clear HI617)
  (try clear HB)
  generalize ((w8.setCell ⟨gb623, 0, none⟩ (.int .i64 t618)).setCell ⟨gb623, 1, none⟩ (.slice Ao12 t619.length co12)) = w13 at n0_ n1_ n2_ n3_ n4_ ⊢
  have HO621 := n0_
  have BK614 := n1_
  have BK623 := n2_
  have HI617 := n3_
  have HB := n4_
  clear n0_ n1_ n2_ n3_ n4_
  replace HO621 := Aside0.mk (Kd.R_drew HO621.out)
  replace BK614 := Aside0.mk (blk_drew BK614.out)
  replace BK623 := Aside0.mk (blk_drew BK623.out)
  replace HI617 := Aside0.mk (IsS106.drew HI617.out)
  replace HB := Aside0.mk (below_drew1 HB.out)
  refine start_ (n := 6) (S := fun w' => w'.cell? ⟨gb623, 0, none⟩ = some (.int .i64 t618) ∧ w'.cell? ⟨gb623, 1, none⟩ = some (.slice Ao12 t619.length co12)) (ds := []) #[false, false, false, false, false, false] (by kernel_rfl) rfl rfl ⟨ct_ BK623.out 0, ct_ BK623.out 1⟩ (fun hHeld => ?_)
  generalize w13.drew = w14 at HO621 BK614 BK623 HI617 HB hHeld ⊢
  refine pure_ (i := 1) (N := some 11) (v := ?_) (a' := ?_) #[false, true, false, false, false, false] rfl rfl (by kernel_rfl) (fun _ _ _ h => h) (Or.inl ⟨by rfl, ?_⟩) ?_ ?_
  rotate_left
  ·intro w'
   go_simp
   with_reducible rfl
  rotate_left
  ·simp only [Act.put, List.setIfInBounds_toArray, List.set_cons_zero, List.set_cons_succ, i64_w, i32_w]
   rfl
  refine take_ (i := 0) (N := some 10) (v := ?_) (a' := ?_) #[true, true, false, false, false, false] rfl rfl (by kernel_rfl) (fun _ _ _ h => h) (Or.inl ⟨by rfl, ?_⟩) hHeld ?_ ?_
  rotate_left
  ·rintro w' ⟨s0, s1⟩
   go_simp
   with_reducible rfl
  rotate_left
  ·simp only [Act.put, List.setIfInBounds_toArray, List.set_cons_zero, List.set_cons_succ, i64_w, i32_w]
   rfl
  refine take_ (i := 2) (N := some 12) (v := ?_) (a' := ?_) #[true, true, true, false, false, false] rfl rfl (by kernel_rfl) (fun _ _ _ h => h) (Or.inl ⟨by rfl, ?_⟩) hHeld ?_ ?_
  rotate_left
  ·rintro w' ⟨s0, s1⟩
   go_simp
   with_reducible rfl
  rotate_left
  ·simp only [Act.put, List.setIfInBounds_toArray, List.set_cons_zero, List.set_cons_succ, i64_w, i32_w]
   rfl
  refine one_ (i := 3) (N := some 13) #[true, true, true, true, false, false] rfl rfl (by kernel_rfl) (by decide) (fun K hK => ?_)
  refine go_ Try.func82 #[.pointer (some ⟨g617, 0, none⟩), .agg #[.int .i64 t618, .slice Ao12 t619.length co12]] ?_
  with_reducible refine (spec_l30AnyWalk.calls k g617 t615 t622 t618 _ _ t619 t624 t627 w _ ?side1 ?side2 ?side3 ?side4 A4.out).mono ?_
  (case side1 => repeat (first | (with_reducible first | exact HI617.out | apply IsS106.alloc | apply IsS106.drewN | apply IsS106.drew | apply IsS106.set_1 | refine IsS106.far ?_ NB617_614.out _ | refine IsS106.far ?_ NB617_623.out _) | exact HI617.out))
  (case side2 => exact (ng106_42 HB.out))
  (case side3 => exact Kd.C_foot_own (IsS106.apart (show IsS106 w _ g617 t615 t622 from ni106_42 HI617.out) (nr_ HO621.out) (by decide)) (fun _ h_ => h_.2))
  (case side4 => exact (Kd.R_reads' HO621.out).2.1)
  rintro e w15 ⟨v625, rfl, ho0, hi, hb, hk⟩
  refine ⟨_, rfl, ?_⟩
  replace BK614 := kk_ BK614 hk NB614_617
  replace HO621 := Aside0.mk (Kd.R_mono (Kd.R_keep (IsS106.apart (show IsS106 w _ g617 t615 t622 from ni106_42 HI617.out) (nr_ HO621.out) (by decide)) hk (fun _ h => h.2)) (fun _ h => h.1))
  replace BK623 := kk_ BK623 hk NB623_617
  have HO626 := Aside0.mk (Kd.R_lower ho0 (below_size (ng106_42 HB.out)))
  replace HB := Aside0.mk (hb)
  replace HI617 := Aside0.mk (hi)
  (try clear hb)
  (try clear hb2)
  (try clear hk)
  (try clear hi)
  (try clear ho0)
  refine hK.out _ _ ⟨ct_ BK623.out 0, ct_ BK623.out 1⟩ (fun hHeld => ?_)
  clear hK K
  refine nm1_ (some 13) ?_
  refine one_ (i := 4) (N := none) #[true, true, true, true, true, false] rfl rfl (by kernel_rfl) (by decide) (fun K hK => ?_)
  have hs16 : w15.cell? ⟨gb614, 0, none⟩ = some (.int .i64 0) := ct_ BK614.out 0
  have hfs16 := blk_frozen BK614.out 0
  have hns16_1 := NB623_614.out
  have hms16_1 := NB614_623.out
  have hs17 : w15.cell? ⟨gb614, 1, none⟩ = some (.slice none 0 0) := ct_ BK614.out 1
  have hfs17 := blk_frozen BK614.out 1
  have hns17_1 := NB623_614.out
  have hms17_1 := NB614_623.out
  refine skip_ (w1 := ?_) (by rfl) rfl ?_ ?_
  rotate_left
  ·go_simp
   rfl
  refine hK.out _ _ ⟨((cell_far (p := ⟨gb614, _, none⟩) NB623_614.out _).trans (((cell_far (p := ⟨gb614, _, none⟩) NB623_614.out _).trans (hHeld.1)))), ((cell_far (p := ⟨gb614, _, none⟩) NB623_614.out _).trans (((cell_far (p := ⟨gb614, _, none⟩) NB623_614.out _).trans (hHeld.2))))⟩ (fun hHeld => ?_)
  clear hK K
  refine pure_ (i := 5) (N := some 3) (v := ?_) (a' := ?_) #[true, true, true, true, true, true] rfl rfl (by kernel_rfl) (fun _ _ _ h => h) (Or.inl ⟨by rfl, ?_⟩) ?_ ?_
  rotate_left
  ·intro w'
   go_simp
   with_reducible rfl
  rotate_left
  ·simp only [Act.put, List.setIfInBounds_toArray, List.set_cons_zero, List.set_cons_succ, i64_w, i32_w]
   rfl
  refine done_ (by kernel_rfl) ?_
  try go_wp2
  refine bodyPost_ret (results_ct rfl _ _ gb614 29 #[.int .i64 t618, .slice Ao12 t619.length co12] (0, 0) _ rfl (np_ BK614.out) Try.underlying29 rfl (by kernel_rfl)) rfl ?_
  exact ⟨_, _, nw_, by (with_reducible repeat (first | apply Kd.R_alloc | apply Kd.R_drewN | apply Kd.R_drew)); exact Kd.R_mono (rf2_ (Kd.R_types HO621.out BK614.out (by decide))) (fun _ hk => trivial), by (with_reducible repeat (first | apply Kd.R_alloc | apply Kd.R_drewN | apply Kd.R_drew)); exact Kd.R_mono (rf2_ (Kd.R_types HO626.out BK614.out (by decide))) (fun _ hk => trivial), by repeat (first | (with_reducible first | exact HB.out | apply below_alloc | apply pw_below_drewN | apply below_drew1 | refine below_set ?_ (IsS106.ge HI617.out) | refine below_set ?_ GE614.out | refine below_set ?_ GE623.out) | exact HB.out)⟩

end Go.Proofs.Ytpjmkghmjpbldaa.Print
