-- Made by this session's own program (wip/patch_print.py, over the kit's print). Lean checks it.
import Derived.Test.YtbmoonciggfbpaaPrint0
import Derived.Test.YtbmoonciggfbpaaPrintF52
import Derived.Test.YtbmoonciggfbpaaPrintF53
import Derived.Test.YtbmoonciggfbpaaPrintF54
namespace Go.Proofs.Ytbmoonciggfbpaa.Print
open Go.RowKit Go.Proofs.YtbmoonciggfbpaaW.PrintWords Go.Proofs.YtbmoonciggfbpaaW.PrintLast Go.Proofs.YtbmoonciggfbpaaW.PrintMore Go.Proofs.YtbmoonciggfbpaaX
attribute [local go_sem] max2_int min2_int max_two min_two max_three min_three max_four min_four   -- for this text's walks alone
set_option linter.unusedVariables false
set_option linter.unusedSimpArgs false

theorem ng87_28 {B : Nat} {w W W' : World} (h : Below B w W) (e : Below B w W → Below B w W' := by intro h_; repeat (first | (with_reducible first | exact h_ | apply below_alloc | apply pw_below_drewN | apply below_drew1 | refine below_set ?_ (IsS87.ge (Aside0.out (by with_reducible assumption))) | refine below_set ?_ (Aside0.out (by with_reducible assumption))) | exact h_)) : Below B w W' := e h
theorem ni87_28 {p q : Prop} (h : p) (e : p → q := by intro h_; repeat (first | (with_reducible first | exact h_ | apply IsS87.alloc | apply IsS87.drewN | apply IsS87.drew | apply IsS87.set_1 | refine IsS87.far ?_ (Aside0.out (by with_reducible assumption)) _) | exact h_)) : q := e h
/-! ### spec_DrawNearWalk: function 28 -/
def spec_DrawNearWalk.f (k : Nat) (l0 : List Int) : Option (Int × (List (S33)) × Int × Int) := (spec_l30Open.f l0).bind fun bt506 => ((spec_l30AnyNet.f k bt506.1 bt506.2).bind fun bt509 => ((spec_l30Node.f k bt506.1 bt509.2.2 bt509.1 bt509.2.1).bind fun bt515 => ((spec_l30Node.f k bt506.1 bt515.2 bt509.1 bt509.2.1).bind fun bt517 => (some (bt509.1, bt509.2.1, bt515.1, bt517.1)))))
theorem spec_DrawNearWalk.mono : ∀ a0 k, LeO (spec_DrawNearWalk.f k a0) (spec_DrawNearWalk.f (k + 1) a0) := by
  intro a0 k
  unfold spec_DrawNearWalk.f
  repeat' first | (with_reducible first | exact spec_l30AnyNet.mono _ _ _ | exact spec_l30Node.mono _ _ _ _ _ | exact LeO.refl _ | exact LeO.none _ | refine LeO.ite ?_ ?_ | refine LeO.bind ?_ (fun _ => ?_)) | exact spec_l30AnyNet.mono _ _ _ | exact spec_l30Node.mono _ _ _ _ _ | exact LeO.none _ | refine LeO.ite ?_ ?_ | refine LeO.bind ?_ (fun _ => ?_)
def spec_DrawNearWalk.T4 : Bool × List (List Nat × List Nat) := (true, [([], []), ([], []), ([], []), ([], []), ([2, 3], [2, 3]), ([0, 4, 0], [0]), ([1, 5, 0, 1, 5], [1]), ([4, 6, 0, 1, 2, 3, 4, 5, 6], [4])])
def spec_DrawNearWalk.B4 : List Nat := [0, 0, 0, 0, 12, 29, 63, 127]
theorem spec_DrawNearWalk.tab4 : rtab .any (opsOf Try.f28 4) = spec_DrawNearWalk.T4 := by kernel_rfl
theorem spec_DrawNearWalk.bits4 : waitsOk spec_DrawNearWalk.T4.2 spec_DrawNearWalk.B4 = true := by kernel_rfl
set_option maxHeartbeats 200000000 in
set_option maxRecDepth 100000 in
theorem spec_DrawNearWalk.calls (k : Nat) (A0 : Option Addr) (c0 : Nat) (l0 : List Int) (r1 : Int) (r2 : List (S33)) (r3 : Int) (r4 : Int) (w : World) (hr0 : Kd.C (Kd.int .u8) w A0 l0.length l0) (hc0 : l0.length ≤ c0) (h : spec_DrawNearWalk.f k l0 = some (r1, r2, r3, r4)) :
    Calls Try.prog 28 #[.slice A0 l0.length c0] w fun e w' => ∃ v1_ : Value, e = .returned (.tuple #[.agg #[.int .i64 r1, v1_], .int .i64 r3, .int .i64 r4]) ∧ Kd.R k33 33 w' w.heap.size (fun _ => True) v1_ r2 ∧ Below w.heap.size w w' := by
  have hu25 := Try.underlying25
  have HR0 := Aside0.mk hr0
  have HC0 := Aside0.mk hc0
  clear hr0 hc0
  have HB := Aside0.mk (Below.refl w.heap.size w)
  have H : ((spec_l30Open.f l0).bind fun bt506 => ((spec_l30AnyNet.f k bt506.1 bt506.2).bind fun bt509 => ((spec_l30Node.f k bt506.1 bt509.2.2 bt509.1 bt509.2.1).bind fun bt515 => ((spec_l30Node.f k bt506.1 bt515.2 bt509.1 bt509.2.1).bind fun bt517 => (some (bt509.1, bt509.2.1, bt515.1, bt517.1)))))) = some (r1, r2, r3, r4) := h
  clear h
  replace H := Option.bind_eq_some_iff.mp H
  obtain ⟨⟨t506, t507⟩, A20, H⟩ := H
  replace H : ((spec_l30AnyNet.f k t506 t507).bind fun bt509 => ((spec_l30Node.f k t506 bt509.2.2 bt509.1 bt509.2.1).bind fun bt515 => ((spec_l30Node.f k t506 bt515.2 bt509.1 bt509.2.1).bind fun bt517 => (some (bt509.1, bt509.2.1, bt515.1, bt517.1))))) = some (r1, r2, r3, r4) := H
  have A2 := Aside0.mk A20
  clear A20
  replace H := Option.bind_eq_some_iff.mp H
  obtain ⟨⟨t509, t510, t513⟩, A30, H⟩ := H
  replace H : ((spec_l30Node.f k t506 t513 t509 t510).bind fun bt515 => ((spec_l30Node.f k t506 bt515.2 t509 t510).bind fun bt517 => (some (t509, t510, bt515.1, bt517.1)))) = some (r1, r2, r3, r4) := H
  have A3 := Aside0.mk A30
  clear A30
  replace H := Option.bind_eq_some_iff.mp H
  obtain ⟨⟨t515, t516⟩, A40, H⟩ := H
  replace H : ((spec_l30Node.f k t506 t516 t509 t510).bind fun bt517 => (some (t509, t510, t515, bt517.1))) = some (r1, r2, r3, r4) := H
  have A4 := Aside0.mk A40
  clear A40
  replace H := Option.bind_eq_some_iff.mp H
  obtain ⟨⟨t517, t518⟩, A50, H⟩ := H
  replace H : (some (t509, t510, t515, t517)) = some (r1, r2, r3, r4) := H
  have A5 := Aside0.mk A50
  clear A50
  simp only [Option.some.injEq, Prod.mk.injEq] at H
  obtain ⟨rfl, rfl, rfl, rfl⟩ := H
  go_enter Try.func28, Try.ntmps28
  try go_wp2_with (first | ((with_reducible refine gate_dst (N := 2) rfl ?_); refine bx_ 2 #[.int .i64 0, .slice none 0 0] 25 ?_; intro gb505 hg w6 hbox hb; have BK505 := Aside0.mk (hbox); have GW505 := Aside0.mk (zs_ hg (ne_ HB.out)); have GE505 := Aside0.mk (zs_ hg (ne_ HB.out)); replace HB := kB_ HB hb; clear hb hbox hg) | ((with_reducible refine gate_callee (f := 52) rfl ?_); refine gl_ (some 9) Try.func52 #[.slice A0 l0.length c0] ?_; (with_reducible refine (spec_l30Open.calls _ _ l0 t506 t507 w _ ?side1 ?side2 ?side3 A2.out).mono ?_); (case side1 => exact ne_ HB.out); (case side2 => exact HR0.out); (case side3 => exact HC0.out); rintro e w7 ⟨g508, rfl, hi, hb, hb2⟩; refine ⟨_, rfl, ?_⟩; have HI508 := Aside0.mk (hi); have NB508_505 := Aside0.mk (IsS87.ne_blk hi (blk_below (g := gb505) (o := .cells #[.int .i64 0, .slice none 0 0] 25 (0, 0)) (nb_ BK505.out) hb2) (by decide)); have NB505_508 := Aside0.mk (Ne.symm (IsS87.ne_blk hi (blk_below (g := gb505) (o := .cells #[.int .i64 0, .slice none 0 0] 25 (0, 0)) (nb_ BK505.out) hb2) (by decide))); replace BK505 := kb_ BK505 hb2; replace HB := Aside0.mk (hb); (try clear hb); (try clear hb2); (try clear hk); (try clear hi)) | ((with_reducible refine gate_callee (f := 53) rfl ?_); refine gl_ (some 11) Try.func53 #[.pointer (some ⟨g508, 0, none⟩)] ?_; (with_reducible refine (spec_l30AnyNet.calls k g508 t506 t507 t509 t510 t513 w _ ?side1 ?side2 A3.out).mono ?_); (case side1 => repeat (first | (with_reducible first | exact HI508.out | apply IsS87.alloc | apply IsS87.drewN | apply IsS87.drew | apply IsS87.set_1 | refine IsS87.far ?_ NB508_505.out _) | exact HI508.out)); (case side2 => repeat (first | (with_reducible first | exact HB.out | apply below_alloc | apply pw_below_drewN | apply below_drew1 | refine below_set ?_ (IsS87.ge HI508.out) | refine below_set ?_ GE505.out) | exact HB.out)); rintro e w8 ⟨v511, rfl, ho0, hi, hb, hk⟩; refine ⟨_, rfl, ?_⟩; have HO512 := Aside0.mk (Kd.R_lower ho0 (below_size (ng87_28 HB.out))); replace BK505 := Aside0.mk (KeepBut.blk hk (g' := gb505) (o := .cells #[.int .i64 0, .slice none 0 0] 25 (0, 0)) (nb_ BK505.out) NB505_508.out (by simp)); replace HB := Aside0.mk (hb); replace HI508 := Aside0.mk (hi); (try clear hb); (try clear hb2); (try clear hk); (try clear hi); (try clear ho0)) | ((with_reducible refine gate_dst (N := 6) rfl ?_); refine bx_ 6 #[.int .i64 0, .slice none 0 0] 25 ?_; intro gb514 hg w9 hbox hb; have BK514 := Aside0.mk (hbox); have GW514 := Aside0.mk (zs_ hg (ng87_28 HB.out)); have GE514 := Aside0.mk (zs_ hg (ng87_28 HB.out)); have NB505_514 := Aside0.mk (nl_ BK505.out hg); have NB514_505 := Aside0.mk (nm_ BK505.out hg); have NB508_514 := Aside0.mk ((by rw [hg]; exact Nat.ne_of_lt (IsS87.lt (show IsS87 w _ g508 t506 t513 from ni87_28 HI508.out)) : g508 ≠ gb514)); have NB514_508 := Aside0.mk ((by rw [hg]; exact Nat.ne_of_gt (IsS87.lt (show IsS87 w _ g508 t506 t513 from ni87_28 HI508.out)) : gb514 ≠ g508)); replace HO512 := kR_ HO512 hb; replace BK505 := kb_ BK505 hb; replace HI508 := Aside0.mk (IsS87.below (ni87_28 HI508.out) hb); replace HB := Aside0.mk (below_step (ng87_28 HB.out) hb); clear hb hbox hg; have hnb10 := NB514_505.out; have hnc10 := NB505_514.out; have hnb11 := NB514_508.out; have hnc11 := NB508_514.out; obtain ⟨hcz12_0, hcz12_1, hfz12_0, hfz12_1⟩ := cz2_ BK514.out; obtain ⟨Ao13, co13, eo13⟩ := Kd.R_slice HO512.out; subst eo13) | ((with_reducible refine gate_callee (f := 54) rfl ?_); refine gl_ (some 14) Try.func54 #[.pointer (some ⟨g508, 0, none⟩), .agg #[.int .i64 t509, .slice Ao13 t510.length co13]] ?_; (with_reducible refine (spec_l30Node.calls k g508 t506 t513 t509 _ _ t510 t515 t516 w _ ?side1 ?side2 ?side3 ?side4 A4.out).mono ?_); (case side1 => repeat (first | (with_reducible first | exact HI508.out | apply IsS87.alloc | apply IsS87.drewN | apply IsS87.drew | apply IsS87.set_1 | refine IsS87.far ?_ NB508_505.out _ | refine IsS87.far ?_ NB508_514.out _) | exact HI508.out)); (case side2 => repeat (first | (with_reducible first | exact HB.out | apply below_alloc | apply pw_below_drewN | apply below_drew1 | refine below_set ?_ (IsS87.ge HI508.out) | refine below_set ?_ GE505.out | refine below_set ?_ GE514.out) | exact HB.out)); (case side3 => exact Kd.C_foot_own (IsS87.apart (show IsS87 w _ g508 t506 t513 from ni87_28 HI508.out) (by (with_reducible repeat (first | apply Kd.R_alloc | apply Kd.R_drewN | apply Kd.R_drew)); exact (Kd.R_mono (rf2_ (Kd.R_types HO512.out BK514.out (by decide))) (fun _ h_ => h_.1))) (by decide)) (fun _ h_ => h_.2)); (case side4 => exact (Kd.R_reads' HO512.out).2.1); rintro e w14 ⟨rfl, hi, hb, hk⟩; refine ⟨_, rfl, ?_⟩; replace BK505 := Aside0.mk (KeepBut.blk hk (g' := gb505) (o := .cells #[.int .i64 0, .slice none 0 0] 25 (0, 0)) (nbf_ BK505.out) NB505_508.out (by simp)); replace HO512 := Aside0.mk (Kd.R_mono (Kd.R_keep (IsS87.apart (show IsS87 w _ g508 t506 t513 from ni87_28 HI508.out) (by (with_reducible repeat (first | apply Kd.R_alloc | apply Kd.R_drewN | apply Kd.R_drew)); exact (Kd.R_mono (rf2_ (Kd.R_types HO512.out BK514.out (by decide))) (fun _ h_ => h_.1))) (by decide)) hk (fun _ h => h.2)) (fun _ h => h.1)); replace BK514 := Aside0.mk (KeepBut.blk hk (g' := gb514) (o := .cells #[.int .i64 t509, .slice Ao13 t510.length co13] 25 (0, 0)) (np_ BK514.out) NB514_508.out (by simp)); replace HB := Aside0.mk (hb); replace HI508 := Aside0.mk (hi); (try clear hb); (try clear hb2); (try clear hk); (try clear hi)))
  have n0_ := Aside0.mk (Kd.R_drew HO512.out)
  have n1_ := Aside0.mk (blk_drew BK505.out)
  have n2_ := Aside0.mk (blk_drew BK514.out)
  have n3_ := Aside0.mk (IsS87.drew HI508.out)
  have n4_ := Aside0.mk (below_drew1 HB.out)
  clear HO512
  clear BK505
  clear BK514
  clear HI508
  clear HB
  have HO512 := n0_
  have BK505 := n1_
  have BK514 := n2_
  have HI508 := n3_
  have HB := n4_
  clear n0_ n1_ n2_ n3_ n4_
  refine start_ (n := 8) (S := fun w' => w'.cell? ⟨gb514, 0, none⟩ = some (.int .i64 t509) ∧ w'.cell? ⟨gb514, 1, none⟩ = some (.slice Ao13 t510.length co13)) (ds := []) #[false, false, false, false, false, false, false, false] (by kernel_rfl) rfl rfl ⟨(blk_cell BK514.out 0).trans rfl, (blk_cell BK514.out 1).trans rfl⟩ (fun hHeld => ?_); refine with_tabW spec_DrawNearWalk.tab4 spec_DrawNearWalk.bits4 (fun HT_ HW_ => ?_)
  generalize w14.drew = w15 at HO512 BK505 BK514 HI508 HB hHeld ⊢
  refine pu_ 1 16 #[false, true, false, false, false, false, false, false] HT_.out ?_
  refine pu_ 2 17 #[false, true, true, false, false, false, false, false] HT_.out ?_
  refine tk_ 0 15 #[true, true, true, false, false, false, false, false] HT_.out HW_.out hHeld ?_
  refine tk_ 3 18 #[true, true, true, true, false, false, false, false] HT_.out HW_.out hHeld ?_
  refine one_ (i := 4) (N := some 19) #[true, true, true, true, true, false, false, false] rfl rfl (one_of HT_.out (by kernel_rfl)) (by decide) (fun K hK => ?_)
  refine goes_ Try.func54 (by kernel_rfl) rfl #[.pointer (some ⟨g508, 0, none⟩), .agg #[.int .i64 t509, .slice Ao13 t510.length co13]] (by rfl) rfl rfl na_ ?_
  with_reducible refine (spec_l30Node.calls k g508 t506 t516 t509 _ _ t510 t517 t518 w _ ?side1 ?side2 ?side3 ?side4 A5.out).mono ?_
  (case side1 => repeat (first | (with_reducible first | exact HI508.out | apply IsS87.alloc | apply IsS87.drewN | apply IsS87.drew | apply IsS87.set_1 | refine IsS87.far ?_ NB508_505.out _ | refine IsS87.far ?_ NB508_514.out _) | exact HI508.out))
  (case side2 => repeat (first | (with_reducible first | exact HB.out | apply below_alloc | apply pw_below_drewN | apply below_drew1 | refine below_set ?_ (IsS87.ge HI508.out) | refine below_set ?_ GE505.out | refine below_set ?_ GE514.out) | exact HB.out))
  (case side3 => exact Kd.C_foot_own (IsS87.apart (show IsS87 w _ g508 t506 t516 from ni87_28 HI508.out) (nr_ HO512.out) (by decide)) (fun _ h_ => h_.2))
  (case side4 => exact (Kd.R_reads' HO512.out).2.1)
  rintro e w16 ⟨rfl, hi, hb, hk⟩
  refine ⟨_, rfl, ?_⟩
  have n0_ := Aside0.mk (KeepBut.blk hk (g' := gb505) (o := .cells #[.int .i64 0, .slice none 0 0] 25 (0, 0)) (nb_ BK505.out) NB505_508.out (by simp))
  have n1_ := Aside0.mk (Kd.R_mono (Kd.R_keep (IsS87.apart (show IsS87 w _ g508 t506 t516 from ni87_28 HI508.out) (nr_ HO512.out) (by decide)) hk (fun _ h => h.2)) (fun _ h => h.1))
  have n2_ := Aside0.mk (KeepBut.blk hk (g' := gb514) (o := .cells #[.int .i64 t509, .slice Ao13 t510.length co13] 25 (0, 0)) (nb_ BK514.out) NB514_508.out (by simp))
  have n3_ := Aside0.mk (hb)
  have n4_ := Aside0.mk (hi)
  clear BK505
  clear HO512
  clear BK514
  clear HB
  clear HI508
  have BK505 := n0_
  have HO512 := n1_
  have BK514 := n2_
  have HB := n3_
  have HI508 := n4_
  clear n0_ n1_ n2_ n3_ n4_
  (try clear hb)
  (try clear hb2)
  (try clear hk)
  (try clear hi)
  refine hK.out _ _ ⟨(blk_cell BK514.out 0).trans rfl, (blk_cell BK514.out 1).trans rfl⟩ (fun hHeld => ?_)
  clear hK K
  refine norm_ (a' := ?_) ?_ ?_
  rotate_left
  ·show Act.put _ (some 19) _ = _
   simp only [Act.put, List.setIfInBounds_toArray, List.set_cons_zero, List.set_cons_succ, i64_w, i32_w]
   rfl
  refine one_ (i := 5) (N := none) #[true, true, true, true, true, true, false, false] rfl rfl (one_of HT_.out (by kernel_rfl)) (by decide) (fun K hK => ?_)
  have hs17 : w16.cell? ⟨gb505, 0, none⟩ = some (.int .i64 0) := (blk_cell BK505.out 0).trans rfl
  have hfs17 := blk_frozen BK505.out 0
  have hns17_1 := NB514_505.out
  have hms17_1 := NB505_514.out
  have hs18 : w16.cell? ⟨gb505, 1, none⟩ = some (.slice none 0 0) := (blk_cell BK505.out 1).trans rfl
  have hfs18 := blk_frozen BK505.out 1
  have hns18_1 := NB514_505.out
  have hms18_1 := NB505_514.out
  refine skip_ (w1 := ?_) (by rfl) rfl ?_ ?_
  rotate_left
  ·go_simp
   rfl
  refine hK.out _ _ ⟨((cell_far (p := ⟨gb505, _, none⟩) NB514_505.out _).trans (((cell_far (p := ⟨gb505, _, none⟩) NB514_505.out _).trans (hHeld.1)))), ((cell_far (p := ⟨gb505, _, none⟩) NB514_505.out _).trans (((cell_far (p := ⟨gb505, _, none⟩) NB514_505.out _).trans (hHeld.2))))⟩ (fun hHeld => ?_)
  clear hK K
  refine pu_ 6 3 #[true, true, true, true, true, true, true, false] HT_.out ?_
  refine pu_ 7 4 #[true, true, true, true, true, true, true, true] HT_.out ?_
  refine done_ (done_of HT_.out (by kernel_rfl)) ?_
  try go_wp2
  refine bodyPost_ret (results_ctt rfl _ _ gb505 25 #[.int .i64 t509, .slice Ao13 t510.length co13] (0, 0) _ rfl (np_ BK505.out) Try.underlying25 rfl (by kernel_rfl)) rfl ?_
  exact ⟨_, nw_, by (with_reducible repeat (first | apply Kd.R_alloc | apply Kd.R_drewN | apply Kd.R_drew)); exact Kd.R_mono (rf2_ (Kd.R_types HO512.out BK505.out (by decide))) (fun _ hk => trivial), by repeat (first | (with_reducible first | exact HB.out | apply below_alloc | apply pw_below_drewN | apply below_drew1 | refine below_set ?_ (IsS87.ge HI508.out) | refine below_set ?_ GE505.out | refine below_set ?_ GE514.out) | exact HB.out)⟩

end Go.Proofs.Ytbmoonciggfbpaa.Print
