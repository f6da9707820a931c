-- Made by this session's own program (wip/patch_print.py, over the kit's print). Lean checks it.
import Derived.Test.YtcfmejfmjjgoaaaPrint0
import Derived.Test.YtcfmejfmjjgoaaaPrintB
import Derived.Test.YtcfmejfmjjgoaaaPrintF45
import Derived.Test.YtcfmejfmjjgoaaaPrintF46
import Derived.Test.YtcfmejfmjjgoaaaPrintF57
namespace Go.Proofs.Ytcfmejfmjjgoaaa.Print
open Go.RowKit Go.Proofs.YtcfmejfmjjgoaaaW.PrintWords Go.Proofs.YtcfmejfmjjgoaaaW.PrintLast Go.Proofs.YtcfmejfmjjgoaaaW.PrintMore Go.Proofs.YtcfmejfmjjgoaaaX
attribute [local go_sem] max2_int min2_int max_two min_two max_three min_three max_four min_four   -- for this text's walks alone
set_option linter.unusedVariables false
set_option linter.unusedSimpArgs false

theorem ng93_22 {B : Nat} {w W W' : World} (h : Below B w W) (e : Below B w W → Below B w W' := by intro h_; repeat (first | (with_reducible first | exact h_ | apply below_alloc | apply pw_below_drewN | apply below_drew1 | refine below_set ?_ (IsS93.ge (Aside0.out (by with_reducible assumption))) | refine below_set ?_ (Aside0.out (by with_reducible assumption))) | exact h_)) : Below B w W' := e h
theorem ni93_22 {p q : Prop} (h : p) (e : p → q := by intro h_; repeat (first | (with_reducible first | exact h_ | apply IsS93.alloc | apply IsS93.drewN | apply IsS93.drew | apply IsS93.set_1 | refine IsS93.far ?_ (Aside0.out (by with_reducible assumption)) _) | exact h_)) : q := e h
/-! ### spec_DrawTurnWalk: function 22 -/
def spec_DrawTurnWalk.f (k : Nat) (l0 : List Int) : Option (Int × (List (S33)) × (List (S31)) × List Int) := (spec_l30Open.f l0).bind fun bt428 => ((spec_l30AnyNet.f k bt428.1 bt428.2).bind fun bt431 => ((spec_l30Turns.f k bt428.1 bt431.2.2 bt431.1 bt431.2.1).bind fun bt437 => ((spec_l30AnyWalk.f k bt428.1 bt437.2 bt431.1 bt431.2.1).bind fun bt441 => (some (bt431.1, bt431.2.1, bt437.1, bt441.1)))))
def spec_DrawTurnWalk.T4 : Bool × List (List Nat × List Nat) := (true, [([], []), ([], []), ([], []), ([], []), ([2, 3], [2, 3]), ([0, 4, 0], [0]), ([1, 5, 0, 1, 5], [1]), ([4, 6, 0, 1, 2, 3, 4, 5, 6], [4])])
def spec_DrawTurnWalk.B4 : List Nat := [0, 0, 0, 0, 12, 29, 63, 127]
theorem spec_DrawTurnWalk.tab4 : rtab .any (opsOf Try.f22 4) = spec_DrawTurnWalk.T4 := by kernel_rfl
theorem spec_DrawTurnWalk.bits4 : waitsOk spec_DrawTurnWalk.T4.2 spec_DrawTurnWalk.B4 = true := by kernel_rfl
set_option maxHeartbeats 200000000 in
set_option maxRecDepth 100000 in
theorem spec_DrawTurnWalk.calls (k : Nat) (A0 : Option Addr) (c0 : Nat) (l0 : List Int) (r1 : Int) (r2 : List (S33)) (r3 : List (S31)) (r4 : List Int) (w : World) (hr0 : Kd.C (Kd.int .u8) w A0 l0.length l0) (hc0 : l0.length ≤ c0) (h : spec_DrawTurnWalk.f k l0 = some (r1, r2, r3, r4)) :
    Calls Try.prog 22 #[.slice A0 l0.length c0] w fun e w' => ∃ v1_ v2_ v3_ : Value, e = .returned (.tuple #[.agg #[.int .i64 r1, v1_], v2_, v3_]) ∧ Kd.R k33 33 w' w.heap.size (fun _ => True) v1_ r2 ∧ Kd.R k31 31 w' w.heap.size (fun _ => True) v2_ r3 ∧ Kd.R (Kd.int .i64) 3 w' w.heap.size (fun _ => True) v3_ r4 ∧ Below w.heap.size w w' := by
  have hu25 := Try.underlying25
  have HR0 := Aside0.mk hr0
  have HC0 := Aside0.mk hc0
  clear hr0 hc0
  have HB := Aside0.mk (Below.refl w.heap.size w)
  have H : ((spec_l30Open.f l0).bind fun bt428 => ((spec_l30AnyNet.f k bt428.1 bt428.2).bind fun bt431 => ((spec_l30Turns.f k bt428.1 bt431.2.2 bt431.1 bt431.2.1).bind fun bt437 => ((spec_l30AnyWalk.f k bt428.1 bt437.2 bt431.1 bt431.2.1).bind fun bt441 => (some (bt431.1, bt431.2.1, bt437.1, bt441.1)))))) = some (r1, r2, r3, r4) := h
  clear h
  replace H := Option.bind_eq_some_iff.mp H
  obtain ⟨⟨t428, t429⟩, A20, H⟩ := H
  try dsimp only at H
  have A2 := Aside0.mk A20
  clear A20
  replace H := Option.bind_eq_some_iff.mp H
  obtain ⟨⟨t431, t432, t435⟩, A30, H⟩ := H
  try dsimp only at H
  have A3 := Aside0.mk A30
  clear A30
  replace H := Option.bind_eq_some_iff.mp H
  obtain ⟨⟨t437, t440⟩, A40, H⟩ := H
  try dsimp only at H
  have A4 := Aside0.mk A40
  clear A40
  replace H := Option.bind_eq_some_iff.mp H
  obtain ⟨⟨t441, t444⟩, A50, H⟩ := H
  replace H : (some (t431, t432, t437, t441)) = some (r1, r2, r3, r4) := H
  have A5 := Aside0.mk A50
  clear A50
  simp only [Option.some.injEq, Prod.mk.injEq] at H
  obtain ⟨rfl, rfl, rfl, rfl⟩ := H
  go_enter Try.func22, Try.ntmps22
  try go_wp2_with (first | ((with_reducible refine gate_dst (N := 2) rfl ?_); refine bx_ 2 #[.int .i64 0, .slice none 0 0] 25 ?_; intro gb427 hg w6 hbox hb; have BK427 := Aside0.mk (hbox); have GW427 := Aside0.mk (zs_ hg (ne_ HB.out)); have GE427 := Aside0.mk (zs_ hg (ne_ HB.out)); replace HB := kB_ HB hb; clear hb hbox hg) | ((with_reducible refine gate_callee (f := 44) rfl ?_); refine gl_ (some 9) Try.func44 #[.slice A0 l0.length c0] ?_; (with_reducible refine (spec_l30Open.calls _ _ l0 t428 t429 w _ ?side1 ?side2 ?side3 A2.out).mono ?_); (case side1 => exact (ne_ HB.out)); (case side2 => exact HR0.out); (case side3 => exact HC0.out); rintro e w7 ⟨g430, rfl, hi, hb, hb2⟩; refine ⟨_, rfl, ?_⟩; have HI430 := Aside0.mk (hi); have NB430_427 := Aside0.mk (IsS93.ne_blk hi (blk_below (g := gb427) (o := .cells #[.int .i64 0, .slice none 0 0] 25 (0, 0)) (nb_ BK427.out) hb2) (by decide)); have NB427_430 := Aside0.mk (Ne.symm (IsS93.ne_blk hi (blk_below (g := gb427) (o := .cells #[.int .i64 0, .slice none 0 0] 25 (0, 0)) (nb_ BK427.out) hb2) (by decide))); replace BK427 := kb_ BK427 hb2; replace HB := Aside0.mk (hb); (try clear hb); (try clear hb2); (try clear hk); (try clear hi)) | ((with_reducible refine gate_callee (f := 45) rfl ?_); refine gl_ (some 11) Try.func45 #[.pointer (some ⟨g430, 0, none⟩)] ?_; (with_reducible refine (spec_l30AnyNet.calls k g430 t428 t429 t431 t432 t435 w _ ?side1 ?side2 A3.out).mono ?_); (case side1 => repeat (first | (with_reducible first | exact HI430.out | apply IsS93.alloc | apply IsS93.drewN | apply IsS93.drew | apply IsS93.set_1 | refine IsS93.far ?_ NB430_427.out _) | exact HI430.out)); (case side2 => exact (ng93_22 HB.out)); rintro e w8 ⟨v433, rfl, ho0, hi, hb, hk⟩; refine ⟨_, rfl, ?_⟩; have HO434 := Aside0.mk (Kd.R_lower ho0 (below_size (ng93_22 HB.out))); replace BK427 := kk_ BK427 hk NB427_430; replace HB := Aside0.mk (hb); replace HI430 := Aside0.mk (hi); (try clear hb); (try clear hb2); (try clear hk); (try clear hi); (try clear ho0)) | ((with_reducible refine gate_dst (N := 6) rfl ?_); refine bx_ 6 #[.int .i64 0, .slice none 0 0] 25 ?_; intro gb436 hg w9 hbox hb; have BK436 := Aside0.mk (hbox); have GW436 := Aside0.mk (zs_ hg (ng93_22 HB.out)); have GE436 := Aside0.mk (zs_ hg (ng93_22 HB.out)); have NB427_436 := Aside0.mk (nl_ BK427.out hg); have NB436_427 := Aside0.mk (nm_ BK427.out hg); have NB430_436 := Aside0.mk ((by rw [hg]; exact Nat.ne_of_lt (IsS93.lt (show IsS93 w _ g430 t428 t435 from ni93_22 HI430.out)) : g430 ≠ gb436)); have NB436_430 := Aside0.mk ((by rw [hg]; exact Nat.ne_of_gt (IsS93.lt (show IsS93 w _ g430 t428 t435 from ni93_22 HI430.out)) : gb436 ≠ g430)); replace HO434 := kR_ HO434 hb; replace BK427 := kb_ BK427 hb; replace HI430 := Aside0.mk (IsS93.below (ni93_22 HI430.out) hb); replace HB := Aside0.mk (below_step (ng93_22 HB.out) hb); clear hb hbox hg; have hnb10 := NB436_427.out; have hnc10 := NB427_436.out; have hnb11 := NB436_430.out; have hnc11 := NB430_436.out; obtain ⟨hcz12_0, hcz12_1, hfz12_0, hfz12_1⟩ := cz2_ BK436.out; obtain ⟨Ao13, co13, eo13⟩ := Kd.R_slice HO434.out; subst eo13) | ((with_reducible refine gate_callee (f := 46) rfl ?_); refine gl_ (some 14) Try.func46 #[.pointer (some ⟨g430, 0, none⟩), .agg #[.int .i64 t431, .slice Ao13 t432.length co13]] ?_; (with_reducible refine (spec_l30Turns.calls k g430 t428 t435 t431 _ _ t432 t437 t440 w _ ?side1 ?side2 ?side3 ?side4 A4.out).mono ?_); (case side1 => repeat (first | (with_reducible first | exact HI430.out | apply IsS93.alloc | apply IsS93.drewN | apply IsS93.drew | apply IsS93.set_1 | refine IsS93.far ?_ NB430_427.out _ | refine IsS93.far ?_ NB430_436.out _) | exact HI430.out)); (case side2 => exact (ng93_22 HB.out)); (case side3 => exact Kd.C_foot_own (IsS93.apart (show IsS93 w _ g430 t428 t435 from ni93_22 HI430.out) (by (with_reducible repeat (first | apply Kd.R_alloc | apply Kd.R_drewN | apply Kd.R_drew)); exact (Kd.R_mono (rf2_ (Kd.R_types HO434.out BK436.out (by decide))) (fun _ h_ => h_.1))) (by decide)) (fun _ h_ => h_.2)); (case side4 => exact (Kd.R_reads' HO434.out).2.1); rintro e w14 ⟨v438, rfl, ho0, hi, hb, hk⟩; refine ⟨_, rfl, ?_⟩; have HO439 := Aside0.mk (Kd.R_lower ho0 (below_size (ng93_22 HB.out))); replace BK427 := Aside0.mk (KeepBut.blk hk (g' := gb427) (o := .cells #[.int .i64 0, .slice none 0 0] 25 (0, 0)) (nbf_ BK427.out) NB427_430.out (by simp)); replace HO434 := Aside0.mk (Kd.R_mono (Kd.R_keep (IsS93.apart (show IsS93 w _ g430 t428 t435 from ni93_22 HI430.out) (by (with_reducible repeat (first | apply Kd.R_alloc | apply Kd.R_drewN | apply Kd.R_drew)); exact (Kd.R_mono (rf2_ (Kd.R_types HO434.out BK436.out (by decide))) (fun _ h_ => h_.1))) (by decide)) hk (fun _ h => h.2)) (fun _ h => h.1)); replace BK436 := Aside0.mk (KeepBut.blk hk (g' := gb436) (o := .cells #[.int .i64 t431, .slice Ao13 t432.length co13] 25 (0, 0)) (np_ BK436.out) NB436_430.out (by simp)); replace HB := Aside0.mk (hb); replace HI430 := Aside0.mk (hi); (try clear hb); (try clear hb2); (try clear hk); (try clear hi); (try clear ho0)))
  replace HO434 := Aside0.mk (Kd.R_drew HO434.out)
  replace HO439 := Aside0.mk (Kd.R_drew HO439.out)
  replace BK427 := Aside0.mk (blk_drew BK427.out)
  replace BK436 := Aside0.mk (blk_drew BK436.out)
  replace HI430 := Aside0.mk (IsS93.drew HI430.out)
  replace HB := Aside0.mk (below_drew1 HB.out)
  refine start_ (n := 8) (S := fun w' => w'.cell? ⟨gb436, 0, none⟩ = some (.int .i64 t431) ∧ w'.cell? ⟨gb436, 1, none⟩ = some (.slice Ao13 t432.length co13)) (ds := []) (bm_ 8 0) (by kernel_rfl) rfl rfl ⟨ct_ BK436.out 0, ct_ BK436.out 1⟩ (fun hHeld => ?_); refine with_tabW spec_DrawTurnWalk.tab4 spec_DrawTurnWalk.bits4 (fun HT_ HW_ => ?_)
  generalize w14.drew = w15 at HO434 HO439 BK427 BK436 HI430 HB hHeld ⊢
  refine pu_ 1 16 (bm_ 8 2) HT_.out ?_
  refine pu_ 2 17 (bm_ 8 6) HT_.out ?_
  refine tk_ 0 15 (bm_ 8 7) HT_.out HW_.out hHeld ?_
  refine tk_ 3 18 (bm_ 8 15) HT_.out HW_.out hHeld ?_
  refine one_ (i := 4) (N := some 19) (bm_ 8 31) rfl rfl (one_of HT_.out (by kernel_rfl)) (by decide) (fun K hK => ?_)
  refine go_ Try.func57 #[.pointer (some ⟨g430, 0, none⟩), .agg #[.int .i64 t431, .slice Ao13 t432.length co13]] ?_
  with_reducible refine (spec_l30AnyWalk.calls k g430 t428 t440 t431 _ _ t432 t441 t444 w _ ?side1 ?side2 ?side3 ?side4 A5.out).mono ?_
  (case side1 => repeat (first | (with_reducible first | exact HI430.out | apply IsS93.alloc | apply IsS93.drewN | apply IsS93.drew | apply IsS93.set_1 | refine IsS93.far ?_ NB430_427.out _ | refine IsS93.far ?_ NB430_436.out _) | exact HI430.out))
  (case side2 => exact (ng93_22 HB.out))
  (case side3 => exact Kd.C_foot_own (IsS93.apart (show IsS93 w _ g430 t428 t440 from ni93_22 HI430.out) (nr_ HO434.out) (by decide)) (fun _ h_ => h_.2))
  (case side4 => exact (Kd.R_reads' HO434.out).2.1)
  rintro e w16 ⟨v442, rfl, ho0, hi, hb, hk⟩
  refine ⟨_, rfl, ?_⟩
  replace BK427 := kk_ BK427 hk NB427_430
  replace HO434 := Aside0.mk (Kd.R_mono (Kd.R_keep (IsS93.apart (show IsS93 w _ g430 t428 t440 from ni93_22 HI430.out) (nr_ HO434.out) (by decide)) hk (fun _ h => h.2)) (fun _ h => h.1))
  replace BK436 := kk_ BK436 hk NB436_430
  replace HO439 := Aside0.mk (Kd.R_mono (Kd.R_keep (IsS93.apart (show IsS93 w _ g430 t428 t440 from ni93_22 HI430.out) (nr_ HO439.out) (by decide)) hk (fun _ h => h.2)) (fun _ h => h.1))
  have HO443 := Aside0.mk (Kd.R_lower ho0 (below_size (ng93_22 HB.out)))
  replace HB := Aside0.mk (hb)
  replace HI430 := Aside0.mk (hi)
  (try clear hb)
  (try clear hb2)
  (try clear hk)
  (try clear hi)
  (try clear ho0)
  refine hK.out _ _ ⟨ct_ BK436.out 0, ct_ BK436.out 1⟩ (fun hHeld => ?_)
  clear hK K
  refine nm1_ (some 19) ?_
  refine one_ (i := 5) (N := none) (bm_ 8 63) rfl rfl (one_of HT_.out (by kernel_rfl)) (by decide) (fun K hK => ?_)
  have hs17 : w16.cell? ⟨gb427, 0, none⟩ = some (.int .i64 0) := ct_ BK427.out 0
  have hfs17 := blk_frozen BK427.out 0
  have hns17_1 := NB436_427.out
  have hms17_1 := NB427_436.out
  have hs18 : w16.cell? ⟨gb427, 1, none⟩ = some (.slice none 0 0) := ct_ BK427.out 1
  have hfs18 := blk_frozen BK427.out 1
  have hns18_1 := NB436_427.out
  have hms18_1 := NB427_436.out
  refine skip_ (w1 := ?_) (by rfl) rfl ?_ ?_
  rotate_left
  ·go_simp
   rfl
  refine hK.out _ _ ⟨((cell_far (p := ⟨gb427, _, none⟩) NB436_427.out _).trans (((cell_far (p := ⟨gb427, _, none⟩) NB436_427.out _).trans (hHeld.1)))), ((cell_far (p := ⟨gb427, _, none⟩) NB436_427.out _).trans (((cell_far (p := ⟨gb427, _, none⟩) NB436_427.out _).trans (hHeld.2))))⟩ (fun hHeld => ?_)
  clear hK K
  refine pu_ 6 3 (bm_ 8 127) HT_.out ?_
  refine pu_ 7 4 (bm_ 8 255) HT_.out ?_
  refine done_ (done_of HT_.out (by kernel_rfl)) ?_
  try go_wp2
  refine bodyPost_ret (results_ctt rfl _ _ gb427 25 #[.int .i64 t431, .slice Ao13 t432.length co13] (0, 0) _ rfl (np_ BK427.out) Try.underlying25 rfl (by kernel_rfl)) rfl ?_
  exact ⟨_, _, _, nw_, by (with_reducible repeat (first | apply Kd.R_alloc | apply Kd.R_drewN | apply Kd.R_drew)); exact Kd.R_mono (rf2_ (Kd.R_types HO434.out BK427.out (by decide))) (fun _ hk => trivial), by (with_reducible repeat (first | apply Kd.R_alloc | apply Kd.R_drewN | apply Kd.R_drew)); exact Kd.R_mono (rf2_ (Kd.R_types HO439.out BK427.out (by decide))) (fun _ hk => trivial), by (with_reducible repeat (first | apply Kd.R_alloc | apply Kd.R_drewN | apply Kd.R_drew)); exact Kd.R_mono (rf2_ (Kd.R_types HO443.out BK427.out (by decide))) (fun _ hk => trivial), by repeat (first | (with_reducible first | exact HB.out | apply below_alloc | apply pw_below_drewN | apply below_drew1 | refine below_set ?_ (IsS93.ge HI430.out) | refine below_set ?_ GE427.out | refine below_set ?_ GE436.out) | exact HB.out)⟩

end Go.Proofs.Ytcfmejfmjjgoaaa.Print
