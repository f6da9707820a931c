-- Made by this session's own program (wip/patch_print.py, over the kit's print). Lean checks it.
import Derived.Test.YtcfmejfmjjgoaaaPrint0
import Derived.Test.YtcfmejfmjjgoaaaPrintB
import Derived.Test.YtcfmejfmjjgoaaaPrintF45
import Derived.Test.YtcfmejfmjjgoaaaPrintF46
import Derived.Test.YtcfmejfmjjgoaaaPrintF62
namespace Go.Proofs.Ytcfmejfmjjgoaaa.Print
open Go.RowKit Go.Proofs.YtcfmejfmjjgoaaaW.PrintWords Go.Proofs.YtcfmejfmjjgoaaaW.PrintLast Go.Proofs.YtcfmejfmjjgoaaaW.PrintMore Go.Proofs.YtcfmejfmjjgoaaaX
attribute [local go_sem] max2_int min2_int max_two min_two max_three min_three max_four min_four   -- for this text's walks alone
set_option linter.unusedVariables false
set_option linter.unusedSimpArgs false

theorem ng93_29 {B : Nat} {w W W' : World} (h : Below B w W) (e : Below B w W → Below B w W' := by intro h_; repeat (first | (with_reducible first | exact h_ | apply below_alloc | apply pw_below_drewN | apply below_drew1 | refine below_set ?_ (IsS93.ge (Aside0.out (by with_reducible assumption))) | refine below_set ?_ (Aside0.out (by with_reducible assumption))) | exact h_)) : Below B w W' := e h
theorem ni93_29 {p q : Prop} (h : p) (e : p → q := by intro h_; repeat (first | (with_reducible first | exact h_ | apply IsS93.alloc | apply IsS93.drewN | apply IsS93.drew | apply IsS93.set_1 | refine IsS93.far ?_ (Aside0.out (by with_reducible assumption)) _) | exact h_)) : q := e h
/-! ### spec_DrawTurnAll: function 29 -/
def spec_DrawTurnAll.f (k : Nat) (l0 : List Int) : Option (Int × (List (S33)) × (List (S31)) × Int) := (spec_l30Open.f l0).bind fun bt573 => ((spec_l30AnyNet.f k bt573.1 bt573.2).bind fun bt576 => ((spec_l30Turns.f k bt573.1 bt576.2.2 bt576.1 bt576.2.1).bind fun bt582 => ((spec_l30Node.f k bt573.1 bt582.2 bt576.1 bt576.2.1).bind fun bt586 => (some (bt576.1, bt576.2.1, bt582.1, bt586.1)))))
def spec_DrawTurnAll.T4 : Bool × List (List Nat × List Nat) := (true, [([], []), ([], []), ([], []), ([], []), ([2, 3], [2, 3]), ([0, 4, 0], [0]), ([1, 5, 0, 1, 5], [1]), ([4, 6, 0, 1, 2, 3, 4, 5, 6], [4])])
def spec_DrawTurnAll.B4 : List Nat := [0, 0, 0, 0, 12, 29, 63, 127]
theorem spec_DrawTurnAll.tab4 : rtab .any (opsOf Try.f29 4) = spec_DrawTurnAll.T4 := by kernel_rfl
theorem spec_DrawTurnAll.bits4 : waitsOk spec_DrawTurnAll.T4.2 spec_DrawTurnAll.B4 = true := by kernel_rfl
set_option maxHeartbeats 200000000 in
set_option maxRecDepth 100000 in
theorem spec_DrawTurnAll.calls (k : Nat) (A0 : Option Addr) (c0 : Nat) (l0 : List Int) (r1 : Int) (r2 : List (S33)) (r3 : List (S31)) (r4 : Int) (w : World) (hr0 : Kd.C (Kd.int .u8) w A0 l0.length l0) (hc0 : l0.length ≤ c0) (h : spec_DrawTurnAll.f k l0 = some (r1, r2, r3, r4)) :
    Calls Try.prog 29 #[.slice A0 l0.length c0] w fun e w' => ∃ v1_ v2_ : Value, e = .returned (.tuple #[.agg #[.int .i64 r1, v1_], v2_, .int .i64 r4]) ∧ Kd.R k33 33 w' w.heap.size (fun _ => True) v1_ r2 ∧ Kd.R k31 31 w' w.heap.size (fun _ => True) v2_ r3 ∧ Below w.heap.size w w' := by
  have hu25 := Try.underlying25
  have HR0 := Aside0.mk hr0
  have HC0 := Aside0.mk hc0
  clear hr0 hc0
  have HB := Aside0.mk (Below.refl w.heap.size w)
  have H : ((spec_l30Open.f l0).bind fun bt573 => ((spec_l30AnyNet.f k bt573.1 bt573.2).bind fun bt576 => ((spec_l30Turns.f k bt573.1 bt576.2.2 bt576.1 bt576.2.1).bind fun bt582 => ((spec_l30Node.f k bt573.1 bt582.2 bt576.1 bt576.2.1).bind fun bt586 => (some (bt576.1, bt576.2.1, bt582.1, bt586.1)))))) = some (r1, r2, r3, r4) := h
  clear h
  replace H := Option.bind_eq_some_iff.mp H
  obtain ⟨⟨t573, t574⟩, A20, H⟩ := H
  try dsimp only at H
  have A2 := Aside0.mk A20
  clear A20
  replace H := Option.bind_eq_some_iff.mp H
  obtain ⟨⟨t576, t577, t580⟩, A30, H⟩ := H
  try dsimp only at H
  have A3 := Aside0.mk A30
  clear A30
  replace H := Option.bind_eq_some_iff.mp H
  obtain ⟨⟨t582, t585⟩, A40, H⟩ := H
  replace H : ((spec_l30Node.f k t573 t585 t576 t577).bind fun bt586 => (some (t576, t577, t582, bt586.1))) = some (r1, r2, r3, r4) := H
  have A4 := Aside0.mk A40
  clear A40
  replace H := Option.bind_eq_some_iff.mp H
  obtain ⟨⟨t586, t587⟩, A50, H⟩ := H
  replace H : (some (t576, t577, t582, t586)) = some (r1, r2, r3, r4) := H
  have A5 := Aside0.mk A50
  clear A50
  simp only [Option.some.injEq, Prod.mk.injEq] at H
  obtain ⟨rfl, rfl, rfl, rfl⟩ := H
  go_enter Try.func29, Try.ntmps29
  try go_wp2_with (first | ((with_reducible refine gate_dst (N := 2) rfl ?_); refine bx_ 2 #[.int .i64 0, .slice none 0 0] 25 ?_; intro gb572 hg w6 hbox hb; have BK572 := Aside0.mk (hbox); have GW572 := Aside0.mk (zs_ hg (ne_ HB.out)); have GE572 := Aside0.mk (zs_ hg (ne_ HB.out)); replace HB := kB_ HB hb; clear hb hbox hg) | ((with_reducible refine gate_callee (f := 44) rfl ?_); refine gl_ (some 9) Try.func44 #[.slice A0 l0.length c0] ?_; (with_reducible refine (spec_l30Open.calls _ _ l0 t573 t574 w _ ?side1 ?side2 ?side3 A2.out).mono ?_); (case side1 => exact (ne_ HB.out)); (case side2 => exact HR0.out); (case side3 => exact HC0.out); rintro e w7 ⟨g575, rfl, hi, hb, hb2⟩; refine ⟨_, rfl, ?_⟩; have HI575 := Aside0.mk (hi); have NB575_572 := Aside0.mk (IsS93.ne_blk hi (blk_below (g := gb572) (o := .cells #[.int .i64 0, .slice none 0 0] 25 (0, 0)) (nb_ BK572.out) hb2) (by decide)); have NB572_575 := Aside0.mk (Ne.symm (IsS93.ne_blk hi (blk_below (g := gb572) (o := .cells #[.int .i64 0, .slice none 0 0] 25 (0, 0)) (nb_ BK572.out) hb2) (by decide))); replace BK572 := kb_ BK572 hb2; replace HB := Aside0.mk (hb); (try clear hb); (try clear hb2); (try clear hk); (try clear hi)) | ((with_reducible refine gate_callee (f := 45) rfl ?_); refine gl_ (some 11) Try.func45 #[.pointer (some ⟨g575, 0, none⟩)] ?_; (with_reducible refine (spec_l30AnyNet.calls k g575 t573 t574 t576 t577 t580 w _ ?side1 ?side2 A3.out).mono ?_); (case side1 => repeat (first | (with_reducible first | exact HI575.out | apply IsS93.alloc | apply IsS93.drewN | apply IsS93.drew | apply IsS93.set_1 | refine IsS93.far ?_ NB575_572.out _) | exact HI575.out)); (case side2 => exact (ng93_29 HB.out)); rintro e w8 ⟨v578, rfl, ho0, hi, hb, hk⟩; refine ⟨_, rfl, ?_⟩; have HO579 := Aside0.mk (Kd.R_lower ho0 (below_size (ng93_29 HB.out))); replace BK572 := kk_ BK572 hk NB572_575; replace HB := Aside0.mk (hb); replace HI575 := Aside0.mk (hi); (try clear hb); (try clear hb2); (try clear hk); (try clear hi); (try clear ho0)) | ((with_reducible refine gate_dst (N := 6) rfl ?_); refine bx_ 6 #[.int .i64 0, .slice none 0 0] 25 ?_; intro gb581 hg w9 hbox hb; have BK581 := Aside0.mk (hbox); have GW581 := Aside0.mk (zs_ hg (ng93_29 HB.out)); have GE581 := Aside0.mk (zs_ hg (ng93_29 HB.out)); have NB572_581 := Aside0.mk (nl_ BK572.out hg); have NB581_572 := Aside0.mk (nm_ BK572.out hg); have NB575_581 := Aside0.mk ((by rw [hg]; exact Nat.ne_of_lt (IsS93.lt (show IsS93 w _ g575 t573 t580 from ni93_29 HI575.out)) : g575 ≠ gb581)); have NB581_575 := Aside0.mk ((by rw [hg]; exact Nat.ne_of_gt (IsS93.lt (show IsS93 w _ g575 t573 t580 from ni93_29 HI575.out)) : gb581 ≠ g575)); replace HO579 := kR_ HO579 hb; replace BK572 := kb_ BK572 hb; replace HI575 := Aside0.mk (IsS93.below (ni93_29 HI575.out) hb); replace HB := Aside0.mk (below_step (ng93_29 HB.out) hb); clear hb hbox hg; have hnb10 := NB581_572.out; have hnc10 := NB572_581.out; have hnb11 := NB581_575.out; have hnc11 := NB575_581.out; obtain ⟨hcz12_0, hcz12_1, hfz12_0, hfz12_1⟩ := cz2_ BK581.out; obtain ⟨Ao13, co13, eo13⟩ := Kd.R_slice HO579.out; subst eo13) | ((with_reducible refine gate_callee (f := 46) rfl ?_); refine gl_ (some 14) Try.func46 #[.pointer (some ⟨g575, 0, none⟩), .agg #[.int .i64 t576, .slice Ao13 t577.length co13]] ?_; (with_reducible refine (spec_l30Turns.calls k g575 t573 t580 t576 _ _ t577 t582 t585 w _ ?side1 ?side2 ?side3 ?side4 A4.out).mono ?_); (case side1 => repeat (first | (with_reducible first | exact HI575.out | apply IsS93.alloc | apply IsS93.drewN | apply IsS93.drew | apply IsS93.set_1 | refine IsS93.far ?_ NB575_572.out _ | refine IsS93.far ?_ NB575_581.out _) | exact HI575.out)); (case side2 => exact (ng93_29 HB.out)); (case side3 => exact Kd.C_foot_own (IsS93.apart (show IsS93 w _ g575 t573 t580 from ni93_29 HI575.out) (by (with_reducible repeat (first | apply Kd.R_alloc | apply Kd.R_drewN | apply Kd.R_drew)); exact (Kd.R_mono (rf2_ (Kd.R_types HO579.out BK581.out (by decide))) (fun _ h_ => h_.1))) (by decide)) (fun _ h_ => h_.2)); (case side4 => exact (Kd.R_reads' HO579.out).2.1); rintro e w14 ⟨v583, rfl, ho0, hi, hb, hk⟩; refine ⟨_, rfl, ?_⟩; have HO584 := Aside0.mk (Kd.R_lower ho0 (below_size (ng93_29 HB.out))); replace BK572 := Aside0.mk (KeepBut.blk hk (g' := gb572) (o := .cells #[.int .i64 0, .slice none 0 0] 25 (0, 0)) (nbf_ BK572.out) NB572_575.out (by simp)); replace HO579 := Aside0.mk (Kd.R_mono (Kd.R_keep (IsS93.apart (show IsS93 w _ g575 t573 t580 from ni93_29 HI575.out) (by (with_reducible repeat (first | apply Kd.R_alloc | apply Kd.R_drewN | apply Kd.R_drew)); exact (Kd.R_mono (rf2_ (Kd.R_types HO579.out BK581.out (by decide))) (fun _ h_ => h_.1))) (by decide)) hk (fun _ h => h.2)) (fun _ h => h.1)); replace BK581 := Aside0.mk (KeepBut.blk hk (g' := gb581) (o := .cells #[.int .i64 t576, .slice Ao13 t577.length co13] 25 (0, 0)) (np_ BK581.out) NB581_575.out (by simp)); replace HB := Aside0.mk (hb); replace HI575 := Aside0.mk (hi); (try clear hb); (try clear hb2); (try clear hk); (try clear hi); (try clear ho0)))
  replace HO579 := Aside0.mk (Kd.R_drew HO579.out)
  replace HO584 := Aside0.mk (Kd.R_drew HO584.out)
  replace BK572 := Aside0.mk (blk_drew BK572.out)
  replace BK581 := Aside0.mk (blk_drew BK581.out)
  replace HI575 := Aside0.mk (IsS93.drew HI575.out)
  replace HB := Aside0.mk (below_drew1 HB.out)
  refine start_ (n := 8) (S := fun w' => w'.cell? ⟨gb581, 0, none⟩ = some (.int .i64 t576) ∧ w'.cell? ⟨gb581, 1, none⟩ = some (.slice Ao13 t577.length co13)) (ds := []) (bm_ 8 0) (by kernel_rfl) rfl rfl ⟨ct_ BK581.out 0, ct_ BK581.out 1⟩ (fun hHeld => ?_); refine with_tabW spec_DrawTurnAll.tab4 spec_DrawTurnAll.bits4 (fun HT_ HW_ => ?_)
  generalize w14.drew = w15 at HO579 HO584 BK572 BK581 HI575 HB hHeld ⊢
  refine pu_ 1 16 (bm_ 8 2) HT_.out ?_
  refine pu_ 2 17 (bm_ 8 6) HT_.out ?_
  refine tk_ 0 15 (bm_ 8 7) HT_.out HW_.out hHeld ?_
  refine tk_ 3 18 (bm_ 8 15) HT_.out HW_.out hHeld ?_
  refine one_ (i := 4) (N := some 19) (bm_ 8 31) rfl rfl (one_of HT_.out (by kernel_rfl)) (by decide) (fun K hK => ?_)
  refine go_ Try.func62 #[.pointer (some ⟨g575, 0, none⟩), .agg #[.int .i64 t576, .slice Ao13 t577.length co13]] ?_
  with_reducible refine (spec_l30Node.calls k g575 t573 t585 t576 _ _ t577 t586 t587 w _ ?side1 ?side2 ?side3 ?side4 A5.out).mono ?_
  (case side1 => repeat (first | (with_reducible first | exact HI575.out | apply IsS93.alloc | apply IsS93.drewN | apply IsS93.drew | apply IsS93.set_1 | refine IsS93.far ?_ NB575_572.out _ | refine IsS93.far ?_ NB575_581.out _) | exact HI575.out))
  (case side2 => exact (ng93_29 HB.out))
  (case side3 => exact Kd.C_foot_own (IsS93.apart (show IsS93 w _ g575 t573 t585 from ni93_29 HI575.out) (nr_ HO579.out) (by decide)) (fun _ h_ => h_.2))
  (case side4 => exact (Kd.R_reads' HO579.out).2.1)
  rintro e w16 ⟨rfl, hi, hb, hk⟩
  refine ⟨_, rfl, ?_⟩
  replace BK572 := kk_ BK572 hk NB572_575
  replace HO579 := Aside0.mk (Kd.R_mono (Kd.R_keep (IsS93.apart (show IsS93 w _ g575 t573 t585 from ni93_29 HI575.out) (nr_ HO579.out) (by decide)) hk (fun _ h => h.2)) (fun _ h => h.1))
  replace BK581 := kk_ BK581 hk NB581_575
  replace HO584 := Aside0.mk (Kd.R_mono (Kd.R_keep (IsS93.apart (show IsS93 w _ g575 t573 t585 from ni93_29 HI575.out) (nr_ HO584.out) (by decide)) hk (fun _ h => h.2)) (fun _ h => h.1))
  replace HB := Aside0.mk (hb)
  replace HI575 := Aside0.mk (hi)
  (try clear hb)
  (try clear hb2)
  (try clear hk)
  (try clear hi)
  refine hK.out _ _ ⟨ct_ BK581.out 0, ct_ BK581.out 1⟩ (fun hHeld => ?_)
  clear hK K
  refine nm1_ (some 19) ?_
  refine one_ (i := 5) (N := none) (bm_ 8 63) rfl rfl (one_of HT_.out (by kernel_rfl)) (by decide) (fun K hK => ?_)
  have hs17 : w16.cell? ⟨gb572, 0, none⟩ = some (.int .i64 0) := ct_ BK572.out 0
  have hfs17 := blk_frozen BK572.out 0
  have hns17_1 := NB581_572.out
  have hms17_1 := NB572_581.out
  have hs18 : w16.cell? ⟨gb572, 1, none⟩ = some (.slice none 0 0) := ct_ BK572.out 1
  have hfs18 := blk_frozen BK572.out 1
  have hns18_1 := NB581_572.out
  have hms18_1 := NB572_581.out
  refine skip_ (w1 := ?_) (by rfl) rfl ?_ ?_
  rotate_left
  ·go_simp
   rfl
  refine hK.out _ _ ⟨((cell_far (p := ⟨gb572, _, none⟩) NB581_572.out _).trans (((cell_far (p := ⟨gb572, _, none⟩) NB581_572.out _).trans (hHeld.1)))), ((cell_far (p := ⟨gb572, _, none⟩) NB581_572.out _).trans (((cell_far (p := ⟨gb572, _, none⟩) NB581_572.out _).trans (hHeld.2))))⟩ (fun hHeld => ?_)
  clear hK K
  refine pu_ 6 3 (bm_ 8 127) HT_.out ?_
  refine pu_ 7 4 (bm_ 8 255) HT_.out ?_
  refine done_ (done_of HT_.out (by kernel_rfl)) ?_
  try go_wp2
  refine bodyPost_ret (results_ctt rfl _ _ gb572 25 #[.int .i64 t576, .slice Ao13 t577.length co13] (0, 0) _ rfl (np_ BK572.out) Try.underlying25 rfl (by kernel_rfl)) rfl ?_
  exact ⟨_, _, nw_, by (with_reducible repeat (first | apply Kd.R_alloc | apply Kd.R_drewN | apply Kd.R_drew)); exact Kd.R_mono (rf2_ (Kd.R_types HO579.out BK572.out (by decide))) (fun _ hk => trivial), by (with_reducible repeat (first | apply Kd.R_alloc | apply Kd.R_drewN | apply Kd.R_drew)); exact Kd.R_mono (rf2_ (Kd.R_types HO584.out BK572.out (by decide))) (fun _ hk => trivial), by repeat (first | (with_reducible first | exact HB.out | apply below_alloc | apply pw_below_drewN | apply below_drew1 | refine below_set ?_ (IsS93.ge HI575.out) | refine below_set ?_ GE572.out | refine below_set ?_ GE581.out) | exact HB.out)⟩

end Go.Proofs.Ytcfmejfmjjgoaaa.Print
