-- Made by this session's own program (wip/patch_print.py, over the kit's print). Lean checks it.
import Derived.Test.YtpjmkghmjpbldaaPrint0
import Derived.Test.YtpjmkghmjpbldaaPrintF60
import Derived.Test.YtpjmkghmjpbldaaPrintF68
import Derived.Test.YtpjmkghmjpbldaaPrintF69
import Derived.Test.YtpjmkghmjpbldaaPrintF82
import Derived.Test.YtpjmkghmjpbldaaPrintF83
import Derived.Test.YtpjmkghmjpbldaaPrintF88
import Derived.Test.YtpjmkghmjpbldaaPrintF89
namespace Go.Proofs.Ytpjmkghmjpbldaa.Print
open Go.RowKit Go.Proofs.YtpjmkghmjpbldaaW.PrintWords Go.Proofs.YtpjmkghmjpbldaaW.PrintLast Go.Proofs.YtpjmkghmjpbldaaW.PrintMore Go.Proofs.YtpjmkghmjpbldaaX
attribute [local go_sem] max2_int min2_int max_two min_two max_three min_three max_four min_four   -- for this text's walks alone
set_option linter.unusedVariables false
set_option linter.unusedSimpArgs false

theorem ng106_52 {B : Nat} {w W W' : World} (h : Below B w W) (e : Below B w W → Below B w W' := by intro h_; repeat (first | (with_reducible first | exact h_ | apply below_alloc | apply pw_below_drewN | apply below_drew1 | refine below_set ?_ (IsS106.ge (Aside0.out (by with_reducible assumption))) | refine below_set ?_ (Aside0.out (by with_reducible assumption))) | exact h_)) : Below B w W' := e h
theorem ni106_52 {p q : Prop} (h : p) (e : p → q := by intro h_; repeat (first | (with_reducible first | exact h_ | apply IsS106.alloc | apply IsS106.drewN | apply IsS106.drew | apply IsS106.set_1 | refine IsS106.far ?_ (Aside0.out (by with_reducible assumption)) _) | exact h_)) : q := e h
/-! ### spec_DrawWalkJoin: function 52 -/
def spec_DrawWalkJoin.j0 : Nat → List Int → Bool → List Int → Int → Int → List (S37) → Option (Int × (List (S37)) × List Int × List Int)
  | 0, _, _, _, _, _, _ => none
  | k + 1, x7, x31, x897000, x897001, x903000, x903001 => if x31 = true then (if 0 ≤ (wrap64 ((x7.length : Int) - 1)) then (if (wrap64 ((x7.length : Int) - 1)) < (x7.length : Int) then (if 0 ≤ (rd x7 (wrap64 ((x7.length : Int) - 1))) then (if (rd x7 (wrap64 ((x7.length : Int) - 1))) < (x903001.length : Int) then ((spec_l30Walk.f k x897000 x897001 x903000 x903001 ((rd_T37 x903001 (rd x7 (wrap64 ((x7.length : Int) - 1)))).f1) 12).bind fun bt913 => (some (x903000, x903001, x7, bt913.1))) else (none)) else (none)) else (none)) else (none)) else ((spec_l30AnyWalk.f k x897000 x897001 x903000 x903001).bind fun bt917 => (some (x903000, x903001, x7, bt917.1)))
def spec_DrawWalkJoin.f (k : Nat) (l0 : List Int) : Option (Int × (List (S37)) × List Int × List Int) := (spec_l30Open.f l0).bind fun bt894 => ((spec_l30AnyNet.f k bt894.1 bt894.2).bind fun bt897 => ((spec_l30AnyWalk.f k bt894.1 bt897.2.2 bt897.1 bt897.2.1).bind fun bt903 => ((spec_l1Ok.f k bt897.1 bt897.2.1).bind fun t907 => (if t907 = true then ((spec_l2Ok.f k bt897.1 bt897.2.1 bt903.1).bind fun t908 => (if t908 = true then (if (bt903.1.length : Int) > 0 then ((spec_l30Rd_pick.f k bt894.1 bt903.2 4).bind fun bt909 => (spec_DrawWalkJoin.j0 k bt903.1 (decide (bt909.1 > 0)) bt894.1 bt909.2 bt897.1 bt897.2.1)) else (spec_DrawWalkJoin.j0 k bt903.1 false bt894.1 bt903.2 bt897.1 bt897.2.1)) else (spec_DrawWalkJoin.j0 k bt903.1 false bt894.1 bt903.2 bt897.1 bt897.2.1))) else (spec_DrawWalkJoin.j0 k bt903.1 false bt894.1 bt903.2 bt897.1 bt897.2.1)))))
theorem spec_DrawWalkJoin.mono_l : ∀ k, (∀ y0 y1 y2 y3 y4 y5, LeO (spec_DrawWalkJoin.j0 k y0 y1 y2 y3 y4 y5) (spec_DrawWalkJoin.j0 (k + 1) y0 y1 y2 y3 y4 y5))
  | 0 => fun _ _ _ _ _ _ r h => by simp [spec_DrawWalkJoin.j0] at h
  | k + 1 => by
    have ih0 := spec_DrawWalkJoin.mono_l k
    · intro y0 y1 y2 y3 y4 y5
      unfold spec_DrawWalkJoin.j0
      repeat' first | (with_reducible first | exact ih0 _ _ _ _ _ _ | exact spec_l1Ok.mono _ _ _ | exact spec_l2Ok.mono _ _ _ _ | exact spec_l30AnyNet.mono _ _ _ | exact spec_l30AnyWalk.mono _ _ _ _ _ | exact spec_l30Rd_pick.mono _ _ _ _ | exact spec_l30Walk.mono _ _ _ _ _ _ _ | exact LeO.refl _ | exact LeO.none _ | refine LeO.ite ?_ ?_ | refine LeO.bind ?_ (fun _ => ?_)) | exact ih0 _ _ _ _ _ _ | exact spec_l1Ok.mono _ _ _ | exact spec_l2Ok.mono _ _ _ _ | exact spec_l30AnyNet.mono _ _ _ | exact spec_l30AnyWalk.mono _ _ _ _ _ | exact spec_l30Rd_pick.mono _ _ _ _ | exact spec_l30Walk.mono _ _ _ _ _ _ _ | exact LeO.none _ | refine LeO.ite ?_ ?_ | refine LeO.bind ?_ (fun _ => ?_)
theorem spec_DrawWalkJoin.mono : ∀ a0 k, LeO (spec_DrawWalkJoin.f k a0) (spec_DrawWalkJoin.f (k + 1) a0) := by
  intro a0 k
  have ih0 := spec_DrawWalkJoin.mono_l k
  unfold spec_DrawWalkJoin.f
  repeat' first | (with_reducible first | exact ih0 _ _ _ _ _ _ | exact spec_l1Ok.mono _ _ _ | exact spec_l2Ok.mono _ _ _ _ | exact spec_l30AnyNet.mono _ _ _ | exact spec_l30AnyWalk.mono _ _ _ _ _ | exact spec_l30Rd_pick.mono _ _ _ _ | exact spec_l30Walk.mono _ _ _ _ _ _ _ | exact LeO.refl _ | exact LeO.none _ | refine LeO.ite ?_ ?_ | refine LeO.bind ?_ (fun _ => ?_)) | exact ih0 _ _ _ _ _ _ | exact spec_l1Ok.mono _ _ _ | exact spec_l2Ok.mono _ _ _ _ | exact spec_l30AnyNet.mono _ _ _ | exact spec_l30AnyWalk.mono _ _ _ _ _ | exact spec_l30Rd_pick.mono _ _ _ _ | exact spec_l30Walk.mono _ _ _ _ _ _ _ | exact LeO.none _ | refine LeO.ite ?_ ?_ | refine LeO.bind ?_ (fun _ => ?_)
def spec_DrawWalkJoin.T5 : Bool × List (List Nat × List Nat) := (true, [([], []), ([], []), ([], []), ([], []), ([], []), ([4], [4]), ([], []), ([], []), ([7], [7]), ([8], [8]), ([6, 9], [6, 9]), ([10], [10]), ([5, 11], [5, 11]), ([12], [12]), ([13], [13]), ([2, 3, 14], [2, 3, 14]), ([0, 15, 0], [0]), ([1, 16, 0, 1, 16], [1]), ([15, 17, 0, 1, 2, 3, 4, 5, 6, 7, 8, 9, 10, 11, 12, 13, 14, 15, 16, 17], [15])])
def spec_DrawWalkJoin.B5 : List Nat := [0, 0, 0, 0, 0, 16, 0, 0, 128, 384, 960, 1984, 4080, 8176, 16368, 32764, 65533, 131071, 262143]
theorem spec_DrawWalkJoin.tab5 : rtab .any (opsOf Try.f52 5) = spec_DrawWalkJoin.T5 := by kernel_rfl
theorem spec_DrawWalkJoin.bits5 : waitsOk spec_DrawWalkJoin.T5.2 spec_DrawWalkJoin.B5 = true := by kernel_rfl
def spec_DrawWalkJoin.T6 : Bool × List (List Nat × List Nat) := (true, [([], []), ([], []), ([], []), ([], []), ([2, 3], [2, 3]), ([0, 4, 0], [0]), ([1, 5, 0, 1, 5], [1]), ([4, 6, 0, 1, 2, 3, 4, 5, 6], [4])])
def spec_DrawWalkJoin.B6 : List Nat := [0, 0, 0, 0, 12, 29, 63, 127]
theorem spec_DrawWalkJoin.tab6 : rtab .any (opsOf Try.f52 6) = spec_DrawWalkJoin.T6 := by kernel_rfl
theorem spec_DrawWalkJoin.bits6 : waitsOk spec_DrawWalkJoin.T6.2 spec_DrawWalkJoin.B6 = true := by kernel_rfl
set_option maxHeartbeats 200000000 in
set_option maxRecDepth 100000 in
theorem spec_DrawWalkJoin.calls (k : Nat) (A0 : Option Addr) (c0 : Nat) (l0 : List Int) (r1 : Int) (r2 : List (S37)) (r3 : List Int) (r4 : List Int) (w : World) (hr0 : Kd.C (Kd.int .u8) w A0 l0.length l0) (hc0 : l0.length ≤ c0) (h : spec_DrawWalkJoin.f k l0 = some (r1, r2, r3, r4)) :
    Calls Try.prog 52 #[.slice A0 l0.length c0] w fun e w' => ∃ v1_ v2_ v3_ : Value, e = .returned (.tuple #[.agg #[.int .i64 r1, v1_], v2_, v3_]) ∧ Kd.R k37 37 w' w.heap.size (fun _ => True) v1_ r2 ∧ Kd.R (Kd.int .i64) 3 w' w.heap.size (fun k_ => some k_ ≠ (v3_ : Value).ownBlock) v2_ r3 ∧ Kd.R (Kd.int .i64) 3 w' w.heap.size (fun k_ => some k_ ≠ (v2_ : Value).ownBlock) v3_ r4 ∧ Below w.heap.size w w' := by
  have hu29 := Try.underlying29
  have HR0 := Aside0.mk hr0
  have HC0 := Aside0.mk hc0
  clear hr0 hc0
  have HB := Aside0.mk (Below.refl w.heap.size w)
  have H : ((spec_l30Open.f l0).bind fun bt894 => ((spec_l30AnyNet.f k bt894.1 bt894.2).bind fun bt897 => ((spec_l30AnyWalk.f k bt894.1 bt897.2.2 bt897.1 bt897.2.1).bind fun bt903 => ((spec_l1Ok.f k bt897.1 bt897.2.1).bind fun t907 => (if t907 = true then ((spec_l2Ok.f k bt897.1 bt897.2.1 bt903.1).bind fun t908 => (if t908 = true then (if (bt903.1.length : Int) > 0 then ((spec_l30Rd_pick.f k bt894.1 bt903.2 4).bind fun bt909 => (spec_DrawWalkJoin.j0 k bt903.1 (decide (bt909.1 > 0)) bt894.1 bt909.2 bt897.1 bt897.2.1)) else (spec_DrawWalkJoin.j0 k bt903.1 false bt894.1 bt903.2 bt897.1 bt897.2.1)) else (spec_DrawWalkJoin.j0 k bt903.1 false bt894.1 bt903.2 bt897.1 bt897.2.1))) else (spec_DrawWalkJoin.j0 k bt903.1 false bt894.1 bt903.2 bt897.1 bt897.2.1)))))) = some (r1, r2, r3, r4) := h
  clear h
  replace H := Option.bind_eq_some_iff.mp H
  obtain ⟨⟨t894, t895⟩, A20, H⟩ := H
  try dsimp only at H
  have A2 := Aside0.mk A20
  clear A20
  replace H := Option.bind_eq_some_iff.mp H
  obtain ⟨⟨t897, t898, t901⟩, A30, H⟩ := H
  try dsimp only at H
  have A3 := Aside0.mk A30
  clear A30
  replace H := Option.bind_eq_some_iff.mp H
  obtain ⟨⟨t903, t906⟩, A40, H⟩ := H
  try dsimp only at H
  have A4 := Aside0.mk A40
  clear A40
  have HC5 := Aside0.mk H
  clear H
  go_enter Try.func52, Try.ntmps52
  go_upto_region 4 with (first | ((with_reducible refine gate_dst (N := 2) rfl ?_); (try (refine gate_guard (by rfl) ?_; dsimp only)); refine bx_ 2 #[.int .i64 0, .slice none 0 0] 29 ?_; intro gb893 hg w6 hbox hb; have BK893 := Aside0.mk (hbox); have GW893 := Aside0.mk (zs_ hg (ne_ HB.out)); have GE893 := Aside0.mk (zs_ hg (ne_ HB.out)); replace HB := kB_ HB hb; clear hb hbox hg) | ((with_reducible refine gate_callee (f := 69) rfl ?_); refine gl_ (some 9) Try.func69 #[.slice A0 l0.length c0] ?_; (with_reducible refine (spec_l30Open.calls _ _ l0 t894 t895 w _ ?side1 ?side2 ?side3 A2.out).mono ?_); (case side1 => exact (ne_ HB.out)); (case side2 => exact HR0.out); (case side3 => exact HC0.out); rintro e w7 ⟨g896, rfl, hi, hb, hb2⟩; refine ⟨_, rfl, ?_⟩; have HI896 := Aside0.mk (hi); have NB896_893 := Aside0.mk (IsS106.ne_blk hi (blk_below (g := gb893) (o := .cells #[.int .i64 0, .slice none 0 0] 29 (0, 0)) (nb_ BK893.out) hb2) (by decide)); have NB893_896 := Aside0.mk (Ne.symm (IsS106.ne_blk hi (blk_below (g := gb893) (o := .cells #[.int .i64 0, .slice none 0 0] 29 (0, 0)) (nb_ BK893.out) hb2) (by decide))); replace BK893 := kb_ BK893 hb2; replace HB := Aside0.mk (hb); (try clear hb); (try clear hb2); (try clear hk); (try clear hi)) | ((with_reducible refine gate_callee (f := 68) rfl ?_); refine gl_ (some 11) Try.func68 #[.pointer (some ⟨g896, 0, none⟩)] ?_; (with_reducible refine (spec_l30AnyNet.calls k g896 t894 t895 t897 t898 t901 w _ ?side1 ?side2 A3.out).mono ?_); (case side1 => repeat (first | (with_reducible first | exact HI896.out | apply IsS106.alloc | apply IsS106.drewN | apply IsS106.drew | apply IsS106.set_1 | refine IsS106.far ?_ NB896_893.out _) | exact HI896.out)); (case side2 => exact (ng106_52 HB.out)); rintro e w8 ⟨v899, rfl, ho0, hi, hb, hk⟩; refine ⟨_, rfl, ?_⟩; have HO900 := Aside0.mk (Kd.R_lower ho0 (below_size (ng106_52 HB.out))); replace BK893 := kk_ BK893 hk NB893_896; replace HB := Aside0.mk (hb); replace HI896 := Aside0.mk (hi); (try clear hb); (try clear hb2); (try clear hk); (try clear hi); (try clear ho0)) | ((with_reducible refine gate_dst (N := 6) rfl ?_); (try (refine gate_guard (by rfl) ?_; dsimp only)); refine bx_ 6 #[.int .i64 0, .slice none 0 0] 29 ?_; intro gb902 hg w9 hbox hb; have BK902 := Aside0.mk (hbox); have GW902 := Aside0.mk (zs_ hg (ng106_52 HB.out)); have GE902 := Aside0.mk (zs_ hg (ng106_52 HB.out)); have NB893_902 := Aside0.mk (nl_ BK893.out hg); have NB902_893 := Aside0.mk (nm_ BK893.out hg); have NB896_902 := Aside0.mk ((by rw [hg]; exact Nat.ne_of_lt (IsS106.lt (show IsS106 w _ g896 t894 t901 from ni106_52 HI896.out)) : g896 ≠ gb902)); have NB902_896 := Aside0.mk ((by rw [hg]; exact Nat.ne_of_gt (IsS106.lt (show IsS106 w _ g896 t894 t901 from ni106_52 HI896.out)) : gb902 ≠ g896)); replace HO900 := kR_ HO900 hb; replace BK893 := kb_ BK893 hb; replace HI896 := Aside0.mk (IsS106.below (ni106_52 HI896.out) hb); replace HB := Aside0.mk (below_step (ng106_52 HB.out) hb); clear hb hbox hg; have hnb10 := NB902_893.out; have hnc10 := NB893_902.out; have hnb11 := NB902_896.out; have hnc11 := NB896_902.out; obtain ⟨hcz12_0, hcz12_1, hfz12_0, hfz12_1⟩ := cz2_ BK902.out; obtain ⟨Ao13, co13, eo13⟩ := Kd.R_slice HO900.out; subst eo13) | ((with_reducible refine gate_callee (f := 82) rfl ?_); refine gl_ (some 14) Try.func82 #[.pointer (some ⟨g896, 0, none⟩), .agg #[.int .i64 t897, .slice Ao13 t898.length co13]] ?_; (with_reducible refine (spec_l30AnyWalk.calls k g896 t894 t901 t897 _ _ t898 t903 t906 w _ ?side1 ?side2 ?side3 ?side4 A4.out).mono ?_); (case side1 => repeat (first | (with_reducible first | exact HI896.out | apply IsS106.alloc | apply IsS106.drewN | apply IsS106.drew | apply IsS106.set_1 | refine IsS106.far ?_ NB896_893.out _ | refine IsS106.far ?_ NB896_902.out _) | exact HI896.out)); (case side2 => exact (ng106_52 HB.out)); (case side3 => exact Kd.C_foot_own (IsS106.apart (show IsS106 w _ g896 t894 t901 from ni106_52 HI896.out) (by (with_reducible repeat (first | apply Kd.R_alloc | apply Kd.R_drewN | apply Kd.R_drew)); exact (Kd.R_mono (rf2_ (Kd.R_types HO900.out BK902.out (by decide))) (fun _ h_ => h_.1))) (by decide)) (fun _ h_ => h_.2)); (case side4 => exact (Kd.R_reads' HO900.out).2.1); rintro e w14 ⟨v904, rfl, ho0, hi, hb, hk⟩; refine ⟨_, rfl, ?_⟩; have HO905 := Aside0.mk (Kd.R_lower ho0 (below_size (ng106_52 HB.out))); replace BK893 := Aside0.mk (KeepBut.blk hk (g' := gb893) (o := .cells #[.int .i64 0, .slice none 0 0] 29 (0, 0)) (nbf_ BK893.out) NB893_896.out (by simp)); replace HO900 := Aside0.mk (Kd.R_mono (Kd.R_keep (IsS106.apart (show IsS106 w _ g896 t894 t901 from ni106_52 HI896.out) (by (with_reducible repeat (first | apply Kd.R_alloc | apply Kd.R_drewN | apply Kd.R_drew)); exact (Kd.R_mono (rf2_ (Kd.R_types HO900.out BK902.out (by decide))) (fun _ h_ => h_.1))) (by decide)) hk (fun _ h => h.2)) (fun _ h => h.1)); replace BK902 := Aside0.mk (KeepBut.blk hk (g' := gb902) (o := .cells #[.int .i64 t897, .slice Ao13 t898.length co13] 29 (0, 0)) (np_ BK902.out) NB902_896.out (by simp)); replace HB := Aside0.mk (hb); replace HI896 := Aside0.mk (hi); (try clear hb); (try clear hb2); (try clear hk); (try clear hi); (try clear ho0)))
  (try simp only [Act.put, List.setIfInBounds_toArray, List.set_cons_zero, List.set_cons_succ])
  go_cut [31] (fun v31 wc => ∃ (kq : Nat) (x31_4 : Bool) (x897001_4 : Int), v31 = .bool x31_4 ∧ Aside0 (spec_DrawWalkJoin.j0 kq t903 x31_4 t894 x897001_4 t897 t898 = some (r1, r2, r3, r4)) ∧ Aside0 (kq ≤ k) ∧ Aside0 (Kd.R (Kd.int .i64) 3 wc w.heap.size (fun _ => True) v904 t903) ∧ Aside0 (Kd.R k37 37 wc w.heap.size (fun _ => True) (.slice Ao13 t898.length co13) t898) ∧ Aside0 (wc.heap[gb893]? = some (.cells #[.int .i64 0, (.slice none 0 0)] 29 (0, 0))) ∧ Aside0 (wc.heap[gb902]? = some (.cells #[.int .i64 t897, (.slice Ao13 t898.length co13)] 29 (0, 0))) ∧ Aside0 (IsS106 w wc g896 t894 x897001_4) ∧ Aside0 (Below w.heap.size w wc))
  case first =>
   have H := HC5.out
   clear HC5
   replace H := Option.bind_eq_some_iff.mp H
   obtain ⟨t907, A150, H⟩ := H
   try dsimp only at H
   have A15 := Aside0.mk A150
   clear A150
   by_cases c16 : t907 = true
   rotate_left
   ·replace c16 := Bool.eq_false_iff.mpr c16
    subst c16
    have H1 : (spec_DrawWalkJoin.j0 k t903 false t894 t906 t897 t898) = some (r1, r2, r3, r4) := by rw [if_neg (show ¬ (false = true) by decide)] at H; exact H
    clear H
    have H := H1
    clear H1
    have H' := Aside0.mk H
    clear H
    have hnb43 := NB902_893.out
    have hnc43 := NB893_902.out
    have hnb44 := NB902_896.out
    have hnc44 := NB896_902.out
    obtain ⟨hcz45_0, hcz45_1, hfz45_0, hfz45_1⟩ := cz2_ BK902.out
    go_wp2_with (first | ((with_reducible refine gate_callee (f := 60) rfl ?_); refine gl_ (some 16) Try.func60 #[.agg #[.int .i64 t897, .slice Ao13 t898.length co13]] ?_; (with_reducible refine (spec_l1Ok.calls k t897 _ _ t898 false _ ?side1 ?side2 A15.out).mono ?_); (case side1 => exact nc_ (Kd.R_reads' HO900.out).2.2); (case side2 => exact (Kd.R_reads' HO900.out).2.1); rintro e w46 ⟨rfl, hb⟩; refine ⟨_, rfl, ?_⟩; replace HO900 := kR_ HO900 hb; replace HO905 := kR_ HO905 hb; replace BK893 := kb_ BK893 hb; replace HI896 := Aside0.mk (IsS106.below (ni106_52 HI896.out) hb); replace BK902 := kb_ BK902 hb; replace HB := Aside0.mk (below_step (ng106_52 HB.out) hb); (try clear hb); (try clear hb2); (try clear hk); (try clear hi)))
    go_meet
    case rel => exact ⟨_, (false), (t906), ns_, H', ⟨by first | omega | exact Nat.le_refl _⟩, ⟨nr_ HO905.out⟩, ⟨nr_ HO900.out⟩, ⟨nb_ BK893.out⟩, ⟨nb_ BK902.out⟩, ⟨ni106_52 HI896.out⟩, ⟨by repeat (first | (with_reducible first | exact HB.out | apply below_alloc | apply pw_below_drewN | apply below_drew1 | refine below_set ?_ (IsS106.ge HI896.out) | refine below_set ?_ GE893.out | refine below_set ?_ GE902.out) | exact HB.out)⟩⟩
   subst c16
   rw [if_pos rfl] at H
   replace H := Option.bind_eq_some_iff.mp H
   obtain ⟨t908, A170, H⟩ := H
   try dsimp only at H
   have A17 := Aside0.mk A170
   clear A170
   by_cases c18 : t908 = true
   rotate_left
   ·replace c18 := Bool.eq_false_iff.mpr c18
    subst c18
    have H1 : (spec_DrawWalkJoin.j0 k t903 false t894 t906 t897 t898) = some (r1, r2, r3, r4) := by rw [if_neg (show ¬ (false = true) by decide)] at H; exact H
    clear H
    have H := H1
    clear H1
    have H' := Aside0.mk H
    clear H
    have hnb36 := NB902_893.out
    have hnc36 := NB893_902.out
    have hnb37 := NB902_896.out
    have hnc37 := NB896_902.out
    obtain ⟨hcz38_0, hcz38_1, hfz38_0, hfz38_1⟩ := cz2_ BK902.out
    go_wp2_with (first | ((with_reducible refine gate_callee (f := 60) rfl ?_); refine gl_ (some 16) Try.func60 #[.agg #[.int .i64 t897, .slice Ao13 t898.length co13]] ?_; (with_reducible refine (spec_l1Ok.calls k t897 _ _ t898 true _ ?side1 ?side2 A15.out).mono ?_); (case side1 => exact nc_ (Kd.R_reads' HO900.out).2.2); (case side2 => exact (Kd.R_reads' HO900.out).2.1); rintro e w39 ⟨rfl, hb⟩; refine ⟨_, rfl, ?_⟩; replace HO900 := kR_ HO900 hb; replace HO905 := kR_ HO905 hb; replace BK893 := kb_ BK893 hb; replace HI896 := Aside0.mk (IsS106.below (ni106_52 HI896.out) hb); replace BK902 := kb_ BK902 hb; replace HB := Aside0.mk (below_step (ng106_52 HB.out) hb); (try clear hb); (try clear hb2); (try clear hk); (try clear hi); obtain ⟨hcz40_0, hcz40_1, hfz40_0, hfz40_1⟩ := cz2_ BK902.out; obtain ⟨Ao41, co41, eo41⟩ := Kd.R_slice HO905.out; subst eo41) | (go_at_call 83; (with_reducible refine (spec_l2Ok.calls k t897 _ _ t898 _ _ t903 false _ ?side1 ?side2 ?side3 ?side4 A17.out).mono ?_); (case side1 => exact nc_ (Kd.R_reads' HO900.out).2.2); (case side2 => exact (Kd.R_reads' HO900.out).2.1); (case side3 => exact nc_ (Kd.R_reads' HO905.out).2.2); (case side4 => exact (Kd.R_reads' HO905.out).2.1); rintro e w42 ⟨rfl, hb⟩; replace HO900 := kR_ HO900 hb; replace HO905 := kR_ HO905 hb; replace BK893 := kb_ BK893 hb; replace HI896 := Aside0.mk (IsS106.below (ni106_52 HI896.out) hb); replace BK902 := kb_ BK902 hb; replace HB := Aside0.mk (below_step (ng106_52 HB.out) hb); (try clear hb); (try clear hb2); (try clear hk); (try clear hi)))
    go_meet
    case rel => exact ⟨_, (false), (t906), ns_, H', ⟨by first | omega | exact Nat.le_refl _⟩, ⟨nr_ HO905.out⟩, ⟨nr_ HO900.out⟩, ⟨nb_ BK893.out⟩, ⟨nb_ BK902.out⟩, ⟨ni106_52 HI896.out⟩, ⟨by repeat (first | (with_reducible first | exact HB.out | apply below_alloc | apply pw_below_drewN | apply below_drew1 | refine below_set ?_ (IsS106.ge HI896.out) | refine below_set ?_ GE893.out | refine below_set ?_ GE902.out) | exact HB.out)⟩⟩
   subst c18
   rw [if_pos rfl] at H
   by_cases c19 : (t903.length : Int) > 0
   rotate_left
   ·rw [if_neg c19] at H
    have c19b0 : decide (0 < (t903.length : Int)) = false := decide_eq_false c19
    have c19b1 : decide (0 < t903.length) = false := decide_eq_false (by omega)
    clear c19
    (first | rw [c19b0] | (simp only [i64_w, i32_w]; rw [c19b0]) | skip)
    have H' := Aside0.mk H
    clear H
    have hnb29 := NB902_893.out
    have hnc29 := NB893_902.out
    have hnb30 := NB902_896.out
    have hnc30 := NB896_902.out
    obtain ⟨hcz31_0, hcz31_1, hfz31_0, hfz31_1⟩ := cz2_ BK902.out
    go_wp2_with (first | ((with_reducible refine gate_callee (f := 60) rfl ?_); refine gl_ (some 16) Try.func60 #[.agg #[.int .i64 t897, .slice Ao13 t898.length co13]] ?_; (with_reducible refine (spec_l1Ok.calls k t897 _ _ t898 true _ ?side1 ?side2 A15.out).mono ?_); (case side1 => exact nc_ (Kd.R_reads' HO900.out).2.2); (case side2 => exact (Kd.R_reads' HO900.out).2.1); rintro e w32 ⟨rfl, hb⟩; refine ⟨_, rfl, ?_⟩; replace HO900 := kR_ HO900 hb; replace HO905 := kR_ HO905 hb; replace BK893 := kb_ BK893 hb; replace HI896 := Aside0.mk (IsS106.below (ni106_52 HI896.out) hb); replace BK902 := kb_ BK902 hb; replace HB := Aside0.mk (below_step (ng106_52 HB.out) hb); (try clear hb); (try clear hb2); (try clear hk); (try clear hi); obtain ⟨hcz33_0, hcz33_1, hfz33_0, hfz33_1⟩ := cz2_ BK902.out; obtain ⟨Ao34, co34, eo34⟩ := Kd.R_slice HO905.out; subst eo34) | (go_at_call 83; (with_reducible refine (spec_l2Ok.calls k t897 _ _ t898 _ _ t903 true _ ?side1 ?side2 ?side3 ?side4 A17.out).mono ?_); (case side1 => exact nc_ (Kd.R_reads' HO900.out).2.2); (case side2 => exact (Kd.R_reads' HO900.out).2.1); (case side3 => exact nc_ (Kd.R_reads' HO905.out).2.2); (case side4 => exact (Kd.R_reads' HO905.out).2.1); rintro e w35 ⟨rfl, hb⟩; replace HO900 := kR_ HO900 hb; replace HO905 := kR_ HO905 hb; replace BK893 := kb_ BK893 hb; replace HI896 := Aside0.mk (IsS106.below (ni106_52 HI896.out) hb); replace BK902 := kb_ BK902 hb; replace HB := Aside0.mk (below_step (ng106_52 HB.out) hb); (try clear hb); (try clear hb2); (try clear hk); (try clear hi)))
    go_meet
    case rel => exact ⟨_, (false), (t906), ns_, H', ⟨by first | omega | exact Nat.le_refl _⟩, ⟨nr_ HO905.out⟩, ⟨nr_ HO900.out⟩, ⟨nb_ BK893.out⟩, ⟨nb_ BK902.out⟩, ⟨ni106_52 HI896.out⟩, ⟨by repeat (first | (with_reducible first | exact HB.out | apply below_alloc | apply pw_below_drewN | apply below_drew1 | refine below_set ?_ (IsS106.ge HI896.out) | refine below_set ?_ GE893.out | refine below_set ?_ GE902.out) | exact HB.out)⟩⟩
   rw [if_pos c19] at H
   have c19b0 : decide (0 < (t903.length : Int)) = true := decide_eq_true c19
   have c19b1 : decide (0 < t903.length) = true := decide_eq_true (by omega)
   clear c19
   (first | rw [c19b0] | (simp only [i64_w, i32_w]; rw [c19b0]) | skip)
   replace H := Option.bind_eq_some_iff.mp H
   obtain ⟨⟨t909, t910⟩, A200, H⟩ := H
   replace H : (spec_DrawWalkJoin.j0 k t903 (decide (t909 > 0)) t894 t910 t897 t898) = some (r1, r2, r3, r4) := H
   have A20 := Aside0.mk A200
   clear A200
   have H' := Aside0.mk H
   clear H
   have hnb21 := NB902_893.out
   have hnc21 := NB893_902.out
   have hnb22 := NB902_896.out
   have hnc22 := NB896_902.out
   obtain ⟨hcz23_0, hcz23_1, hfz23_0, hfz23_1⟩ := cz2_ BK902.out
   go_wp2_with (first | ((with_reducible refine gate_callee (f := 60) rfl ?_); refine gl_ (some 16) Try.func60 #[.agg #[.int .i64 t897, .slice Ao13 t898.length co13]] ?_; (with_reducible refine (spec_l1Ok.calls k t897 _ _ t898 true _ ?side1 ?side2 A15.out).mono ?_); (case side1 => exact nc_ (Kd.R_reads' HO900.out).2.2); (case side2 => exact (Kd.R_reads' HO900.out).2.1); rintro e w24 ⟨rfl, hb⟩; refine ⟨_, rfl, ?_⟩; replace HO900 := kR_ HO900 hb; replace HO905 := kR_ HO905 hb; replace BK893 := kb_ BK893 hb; replace HI896 := Aside0.mk (IsS106.below (ni106_52 HI896.out) hb); replace BK902 := kb_ BK902 hb; replace HB := Aside0.mk (below_step (ng106_52 HB.out) hb); (try clear hb); (try clear hb2); (try clear hk); (try clear hi); obtain ⟨hcz25_0, hcz25_1, hfz25_0, hfz25_1⟩ := cz2_ BK902.out; obtain ⟨Ao26, co26, eo26⟩ := Kd.R_slice HO905.out; subst eo26) | (go_at_call 83; (with_reducible refine (spec_l2Ok.calls k t897 _ _ t898 _ _ t903 true _ ?side1 ?side2 ?side3 ?side4 A17.out).mono ?_); (case side1 => exact nc_ (Kd.R_reads' HO900.out).2.2); (case side2 => exact (Kd.R_reads' HO900.out).2.1); (case side3 => exact nc_ (Kd.R_reads' HO905.out).2.2); (case side4 => exact (Kd.R_reads' HO905.out).2.1); rintro e w27 ⟨rfl, hb⟩; replace HO900 := kR_ HO900 hb; replace HO905 := kR_ HO905 hb; replace BK893 := kb_ BK893 hb; replace HI896 := Aside0.mk (IsS106.below (ni106_52 HI896.out) hb); replace BK902 := kb_ BK902 hb; replace HB := Aside0.mk (below_step (ng106_52 HB.out) hb); (try clear hb); (try clear hb2); (try clear hk); (try clear hi)) | (go_at_call 88; (with_reducible refine (spec_l30Rd_pick.calls k g896 t894 t906 4 t909 t910 w _ ?side1 ?side2 A20.out).mono ?_); (case side1 => repeat (first | (with_reducible first | exact HI896.out | apply IsS106.alloc | apply IsS106.drewN | apply IsS106.drew | apply IsS106.set_1 | refine IsS106.far ?_ NB896_893.out _ | refine IsS106.far ?_ NB896_902.out _) | exact HI896.out)); (case side2 => exact (ng106_52 HB.out)); rintro e w28 ⟨rfl, hi, hb, hk⟩; replace BK893 := kk_ BK893 hk NB893_896; replace HO900 := Aside0.mk (Kd.R_mono (Kd.R_keep (IsS106.apart (show IsS106 w _ g896 t894 t906 from ni106_52 HI896.out) (nr_ HO900.out) (by decide)) hk (fun _ h => h.2)) (fun _ h => h.1)); replace BK902 := kk_ BK902 hk NB902_896; replace HO905 := Aside0.mk (Kd.R_mono (Kd.R_keep (IsS106.apart (show IsS106 w _ g896 t894 t906 from ni106_52 HI896.out) (nr_ HO905.out) (by decide)) hk (fun _ h => h.2)) (fun _ h => h.1)); replace HB := Aside0.mk (hb); replace HI896 := Aside0.mk (hi); (try clear hb); (try clear hb2); (try clear hk); (try clear hi)))
   go_meet
   case rel => exact ⟨_, (decide (t909 > 0)), (t910), ns_, H', ⟨by first | omega | exact Nat.le_refl _⟩, ⟨nr_ HO905.out⟩, ⟨nr_ HO900.out⟩, ⟨nb_ BK893.out⟩, ⟨nb_ BK902.out⟩, ⟨ni106_52 HI896.out⟩, ⟨by repeat (first | (with_reducible first | exact HB.out | apply below_alloc | apply pw_below_drewN | apply below_drew1 | refine below_set ?_ (IsS106.ge HI896.out) | refine below_set ?_ GE893.out | refine below_set ?_ GE902.out) | exact HB.out)⟩⟩
  case rest =>
   clear HC5
   try clear hcz12_0
   try clear hcz12_1
   try clear hfz12_0
   try clear hfz12_1
   obtain ⟨kq, x31_4, x897001_4, rfl, HA, HJ4, HO_7, HO_903001, BK893, BK902, HI896, HB⟩ := hcut
   cases kq with
   | zero => exact absurd HA.out (by simp [spec_DrawWalkJoin.j0])
   | succ kj4 =>
    have H := HA.out
    clear HA
    simp only [spec_DrawWalkJoin.j0] at H
    by_cases c47 : x31_4 = true
    rotate_left
    ·replace c47 := Bool.eq_false_iff.mpr c47
     subst c47
     have H1 : ((spec_l30AnyWalk.f kj4 t894 x897001_4 t897 t898).bind fun bt917 => (some (t897, t898, t903, bt917.1))) = some (r1, r2, r3, r4) := by rw [if_neg (show ¬ (false = true) by decide)] at H; exact H
     clear H
     have H := H1
     clear H1
     replace H := Option.bind_eq_some_iff.mp H
     obtain ⟨⟨t917, t920⟩, A590, H⟩ := H
     replace H : (some (t897, t898, t903, t917)) = some (r1, r2, r3, r4) := H
     have A59 := Aside0.mk A590
     clear A590
     simp only [Option.some.injEq, Prod.mk.injEq] at H
     obtain ⟨rfl, rfl, rfl, rfl⟩ := H
     try go_wp2
     replace HO_7 := Aside0.mk (Kd.R_drew HO_7.out)
     replace HO_903001 := Aside0.mk (Kd.R_drew HO_903001.out)
     replace BK893 := Aside0.mk (blk_drew BK893.out)
     replace BK902 := Aside0.mk (blk_drew BK902.out)
     replace HI896 := Aside0.mk (IsS106.drew HI896.out)
     replace HB := Aside0.mk (below_drew1 HB.out)
     refine start_ (n := 8) (S := fun w' => w'.cell? ⟨gb902, 0, none⟩ = some (.int .i64 t897) ∧ w'.cell? ⟨gb902, 1, none⟩ = some (.slice Ao13 t898.length co13)) (ds := []) (bm_ 8 0) (by kernel_rfl) rfl rfl ⟨ct_ BK902.out 0, ct_ BK902.out 1⟩ (fun hHeld => ?_); refine with_tabW spec_DrawWalkJoin.tab6 spec_DrawWalkJoin.bits6 (fun HT_ HW_ => ?_)
     generalize wc.drew = w60 at HO_7 HO_903001 BK893 BK902 HI896 HB hHeld ⊢
     refine pu_ 1 49 (bm_ 8 2) HT_.out ?_
     refine pu_ 2 50 (bm_ 8 6) HT_.out ?_
     refine tk_ 0 48 (bm_ 8 7) HT_.out HW_.out hHeld ?_
     refine tk_ 3 51 (bm_ 8 15) HT_.out HW_.out hHeld ?_
     refine one_ (i := 4) (N := some 52) (bm_ 8 31) rfl rfl (one_of HT_.out (by kernel_rfl)) (by decide) (fun K hK => ?_)
     refine go_ Try.func82 #[.pointer (some ⟨g896, 0, none⟩), .agg #[.int .i64 t897, .slice Ao13 t898.length co13]] ?_
     with_reducible refine (spec_l30AnyWalk.calls kj4 g896 t894 x897001_4 t897 _ _ t898 t917 t920 w _ ?side1 ?side2 ?side3 ?side4 A59.out).mono ?_
     (case side1 => repeat (first | (with_reducible first | exact HI896.out | apply IsS106.alloc | apply IsS106.drewN | apply IsS106.drew | apply IsS106.set_1 | refine IsS106.far ?_ NB896_893.out _ | refine IsS106.far ?_ NB896_902.out _) | exact HI896.out))
     (case side2 => exact (ng106_52 HB.out))
     (case side3 => exact Kd.C_foot_own (IsS106.apart (show IsS106 w _ g896 t894 x897001_4 from ni106_52 HI896.out) (nr_ HO_903001.out) (by decide)) (fun _ h_ => h_.2))
     (case side4 => exact (Kd.R_reads' HO_903001.out).2.1)
     rintro e w61 ⟨v918, rfl, ho0, hi, hb, hk⟩
     refine ⟨_, rfl, ?_⟩
     replace HO_903001 := Aside0.mk (Kd.R_mono (Kd.R_keep (IsS106.apart (show IsS106 w _ g896 t894 x897001_4 from ni106_52 HI896.out) (nr_ HO_903001.out) (by decide)) hk (fun _ h => h.2)) (fun _ h => h.1))
     replace BK893 := kk_ BK893 hk NB893_896
     replace BK902 := kk_ BK902 hk NB902_896
     have HO919 := Aside0.mk (Kd.R_lower (Kd.R_new' ho0 (Kd.R_lt (nr_ HO_7.out))) (below_size (ng106_52 HB.out)))
     replace HO_7 := Aside0.mk (Kd.R_mono (Kd.R_told (Kd.R_oldK (IsS106.apart (show IsS106 w _ g896 t894 x897001_4 from ni106_52 HI896.out) (nr_ HO_7.out) (by decide)) hk) (Kd.R_base ho0)) (fun _ h_ => h_.1))
     replace HB := Aside0.mk (hb)
     replace HI896 := Aside0.mk (hi)
     (try clear hb)
     (try clear hb2)
     (try clear hk)
     (try clear hi)
     (try clear ho0)
     refine hK.out _ _ ⟨ct_ BK902.out 0, ct_ BK902.out 1⟩ (fun hHeld => ?_)
     clear hK K
     refine nm1_ (some 52) ?_
     refine one_ (i := 5) (N := none) (bm_ 8 63) rfl rfl (one_of HT_.out (by kernel_rfl)) (by decide) (fun K hK => ?_)
     have hs62 : w61.cell? ⟨gb893, 0, none⟩ = some (.int .i64 0) := ct_ BK893.out 0
     have hfs62 := blk_frozen BK893.out 0
     have hns62_1 := NB902_893.out
     have hms62_1 := NB893_902.out
     have hs63 : w61.cell? ⟨gb893, 1, none⟩ = some (.slice none 0 0) := ct_ BK893.out 1
     have hfs63 := blk_frozen BK893.out 1
     have hns63_1 := NB902_893.out
     have hms63_1 := NB893_902.out
     refine skip_ (w1 := ?_) (by rfl) rfl ?_ ?_
     rotate_left
     ·go_simp
      rfl
     refine hK.out _ _ ⟨((cell_far (p := ⟨gb893, _, none⟩) NB902_893.out _).trans (((cell_far (p := ⟨gb893, _, none⟩) NB902_893.out _).trans (hHeld.1)))), ((cell_far (p := ⟨gb893, _, none⟩) NB902_893.out _).trans (((cell_far (p := ⟨gb893, _, none⟩) NB902_893.out _).trans (hHeld.2))))⟩ (fun hHeld => ?_)
     clear hK K
     refine pu_ 6 3 (bm_ 8 127) HT_.out ?_
     refine pu_ 7 4 (bm_ 8 255) HT_.out ?_
     refine done_ (done_of HT_.out (by kernel_rfl)) ?_
     try go_wp2
     refine bodyPost_ret (results_ctt rfl _ _ gb893 29 #[.int .i64 t897, .slice Ao13 t898.length co13] (0, 0) _ rfl (np_ BK893.out) Try.underlying29 rfl (by kernel_rfl)) rfl ?_
     exact ⟨_, _, _, nw_, by (with_reducible repeat (first | apply Kd.R_alloc | apply Kd.R_drewN | apply Kd.R_drew)); exact Kd.R_mono (rf2_ (Kd.R_types HO_903001.out BK893.out (by decide))) (fun _ hk => trivial), by (with_reducible repeat (first | apply Kd.R_alloc | apply Kd.R_drewN | apply Kd.R_drew)); exact Kd.R_mono (rf2_ (Kd.R_types HO_7.out BK893.out (by decide))) (fun _ hk => by first | exact hk.1.2 | trivial | simp_all), by (with_reducible repeat (first | apply Kd.R_alloc | apply Kd.R_drewN | apply Kd.R_drew)); exact Kd.R_mono (rf2_ (Kd.R_types HO919.out BK893.out (by decide))) (fun _ hk => by first | exact hk.1.2 | trivial | simp_all), by repeat (first | (with_reducible first | exact HB.out | apply below_alloc | apply pw_below_drewN | apply below_drew1 | refine below_set ?_ (IsS106.ge HI896.out) | refine below_set ?_ GE893.out | refine below_set ?_ GE902.out) | exact HB.out)⟩

    subst c47
    rw [if_pos rfl] at H
    obtain ⟨ji48, hji48⟩ : ∃ j_ : Int, (wrap64 ((t903.length : Int) - 1)) = j_ := ⟨_, rfl⟩
    replace H : (if 0 ≤ (ji48) then (if (ji48) < (t903.length : Int) then (if 0 ≤ (rd t903 (ji48)) then (if (rd t903 (ji48)) < (t898.length : Int) then ((spec_l30Walk.f kj4 t894 x897001_4 t897 t898 ((rd_T37 t898 (rd t903 (ji48))).f1) 12).bind fun bt913 => (some (t897, t898, t903, bt913.1))) else (none)) else (none)) else (none)) else (none)) = some (r1, r2, r3, r4) := by first | (rw [hji48] at H; exact H) | (simp only [hji48] at H ⊢; exact H)
    have hji48w : (IntKind.i64.wrap ((t903.length : Int) - 1)) = ji48 := (i64_w _).trans hji48
    by_cases c49 : 0 ≤ (ji48)
    rotate_left
    ·rw [if_neg c49] at H
     exact absurd H (by simp)
    rw [if_pos c49] at H
    have c49b0 : decide (0 ≤ (ji48)) = true := decide_eq_true c49
    clear c49
    by_cases c50 : (ji48) < (t903.length : Int)
    rotate_left
    ·rw [if_neg c50] at H
     exact absurd H (by simp)
    rw [if_pos c50] at H
    have c50b0 : decide ((ji48) < (t903.length : Int)) = true := decide_eq_true c50
    clear c50
    by_cases c51 : 0 ≤ (rd t903 (ji48))
    rotate_left
    ·rw [if_neg c51] at H
     exact absurd H (by simp)
    rw [if_pos c51] at H
    have c51b0 : decide (0 ≤ (rd t903 (ji48))) = true := decide_eq_true c51
    clear c51
    by_cases c52 : (rd t903 (ji48)) < (t898.length : Int)
    rotate_left
    ·rw [if_neg c52] at H
     exact absurd H (by simp)
    rw [if_pos c52] at H
    have c52b0 : decide ((rd t903 (ji48)) < (t898.length : Int)) = true := decide_eq_true c52
    clear c52
    replace H := Option.bind_eq_some_iff.mp H
    obtain ⟨⟨t913, t916⟩, A530, H⟩ := H
    replace H : (some (t897, t898, t903, t913)) = some (r1, r2, r3, r4) := H
    have A53 := Aside0.mk A530
    clear A530
    simp only [Option.some.injEq, Prod.mk.injEq] at H
    obtain ⟨rfl, rfl, rfl, rfl⟩ := H
    try go_wp2
    replace HO_7 := Aside0.mk (Kd.R_drew HO_7.out)
    replace HO_903001 := Aside0.mk (Kd.R_drew HO_903001.out)
    replace BK893 := Aside0.mk (blk_drew BK893.out)
    replace BK902 := Aside0.mk (blk_drew BK902.out)
    replace HI896 := Aside0.mk (IsS106.drew HI896.out)
    replace HB := Aside0.mk (below_drew1 HB.out)
    obtain ⟨Ao55, co55, eo55⟩ := Kd.R_slice HO_7.out
    (first | subst eo55 | (injection eo55 with f1_ f2_ f3_; have f4_ := f1_.symm; have f5_ := f3_.symm; clear f1_ f2_ f3_; subst f4_; subst f5_))
    have p911 : 0 ≤ ((ji48) : Int) := of_decide_eq_true nx_
    have q911 : (ji48) < (t903.length : Int) := of_decide_eq_true nx_
    obtain ⟨ad911, e911, hx911_0⟩ := Kd.at_int (Kd.R_reads' HO_7.out).2.2 (ji48) p911 q911
    cases e911
    replace p911 := eq_true p911
    replace q911 := eq_true q911
    have p912 : 0 ≤ ((rd t903 (ji48)) : Int) := of_decide_eq_true nx_
    have q912 : (rd t903 (ji48)) < (t898.length : Int) := of_decide_eq_true nx_
    obtain ⟨ad912, e912, hx912_0, hx912_1, hx912_2, hx912_3, hx912_4⟩ := at_T37 (Kd.R_reads' HO_903001.out).2.2 (rd t903 (ji48)) p912 q912
    cases e912
    replace p912 := eq_true p912
    replace q912 := eq_true q912
    refine start_ (n := 19) (S := fun w' => w'.cell? ⟨gb902, 0, none⟩ = some (.int .i64 t897) ∧ w'.cell? ⟨gb902, 1, none⟩ = some (.slice (some ad912) t898.length co13) ∧ w'.cell? (ad911.add ((ji48)).toNat) = some (.int .i64 (rd t903 (ji48))) ∧ w'.cell? (ad912.add (((rd t903 (ji48))).toNat * 5)) = some (.int .i64 ((rd_T37 t898 (rd t903 (ji48))).f0)) ∧ w'.cell? ⟨(ad912.add (((rd t903 (ji48))).toNat * 5)).block, (ad912.add (((rd t903 (ji48))).toNat * 5)).off + 1, none⟩ = some (.int .i64 ((rd_T37 t898 (rd t903 (ji48))).f1)) ∧ w'.cell? ⟨(ad912.add (((rd t903 (ji48))).toNat * 5)).block, (ad912.add (((rd t903 (ji48))).toNat * 5)).off + 2, none⟩ = some (.int .i64 ((rd_T37 t898 (rd t903 (ji48))).f2)) ∧ w'.cell? ⟨(ad912.add (((rd t903 (ji48))).toNat * 5)).block, (ad912.add (((rd t903 (ji48))).toNat * 5)).off + 3, none⟩ = some (.int .i64 ((rd_T37 t898 (rd t903 (ji48))).f3)) ∧ w'.cell? ⟨(ad912.add (((rd t903 (ji48))).toNat * 5)).block, (ad912.add (((rd t903 (ji48))).toNat * 5)).off + 4, none⟩ = some (.int .i64 ((rd_T37 t898 (rd t903 (ji48))).f4))) (ds := []) (bm_ 19 0) (by kernel_rfl) rfl rfl ⟨ct_ BK902.out 0, ct_ BK902.out 1, hx911_0, hx912_0, hx912_1, hx912_2, hx912_3, hx912_4⟩ (fun hHeld => ?_); refine with_tabW spec_DrawWalkJoin.tab5 spec_DrawWalkJoin.bits5 (fun HT_ HW_ => ?_)
    generalize wc.drew = w54 at HO_7 HO_903001 BK893 BK902 HI896 HB hx911_0 hx912_0 hx912_1 hx912_2 hx912_3 hx912_4 hHeld ⊢
    refine pu_ 1 33 (bm_ 19 2) HT_.out ?_
    refine pu_ 2 34 (bm_ 19 6) HT_.out ?_
    refine pu_ 4 36 (bm_ 19 22) HT_.out ?_
    refine pu_ 6 38 (bm_ 19 86) HT_.out ?_
    refine pu_ 7 39 (bm_ 19 214) HT_.out ?_
    refine pu_ 8 40 (bm_ 19 470) HT_.out ?_
    refine pu_ 9 41 (bm_ 19 982) HT_.out ?_
    refine pu_ 10 42 (bm_ 19 2006) HT_.out ?_
    refine tk_ 0 32 (bm_ 19 2007) HT_.out HW_.out hHeld ?_
    refine tk_ 3 35 (bm_ 19 2015) HT_.out HW_.out hHeld ?_
    refine tk_ 5 37 (bm_ 19 2047) HT_.out HW_.out hHeld ?_
    refine tk_ 11 43 (bm_ 19 4095) HT_.out HW_.out hHeld ?_
    refine pu_ 12 44 (bm_ 19 8191) HT_.out ?_
    refine pu_ 13 45 (bm_ 19 16383) HT_.out ?_
    refine tk_ 14 46 (bm_ 19 32767) HT_.out HW_.out hHeld ?_
    refine one_ (i := 15) (N := some 47) (bm_ 19 65535) rfl rfl (one_of HT_.out (by kernel_rfl)) (by decide) (fun K hK => ?_)
    refine goes_ Try.func89 (by kernel_rfl) rfl #[.pointer (some ⟨g896, 0, none⟩), .agg #[.int .i64 t897, .slice (some ad912) t898.length co13], .int .i64 ((rd_T37 t898 (rd t903 (ji48))).f1), .int .i64 12] (by rfl) rfl rfl (by (try simp only [List.map_toArray, List.map_cons, List.map_nil]); first | done | (simp only [hji48]; rfl) | rfl | (simp only [List.length_drop, List.length_take]; rfl)) ?_
    with_reducible refine (spec_l30Walk.calls kj4 g896 t894 x897001_4 t897 _ _ t898 ((rd_T37 t898 (rd t903 (ji48))).f1) 12 t913 t916 w _ ?side1 ?side2 ?side3 ?side4 A53.out).mono ?_
    (case side1 => repeat (first | (with_reducible first | exact HI896.out | apply IsS106.alloc | apply IsS106.drewN | apply IsS106.drew | apply IsS106.set_1 | refine IsS106.far ?_ NB896_893.out _ | refine IsS106.far ?_ NB896_902.out _) | exact HI896.out))
    (case side2 => exact (ng106_52 HB.out))
    (case side3 => exact Kd.C_foot_own (IsS106.apart (show IsS106 w _ g896 t894 x897001_4 from ni106_52 HI896.out) (nr_ HO_903001.out) (by decide)) (fun _ h_ => h_.2))
    (case side4 => exact (Kd.R_reads' HO_903001.out).2.1)
    rintro e w56 ⟨v914, rfl, ho0, hi, hb, hk⟩
    have HS2_ := keep_cell hk (hHeld.2.2.1) (by first | (rw [add_block]; exact Kd.own_blk (IsS106.own_ne HI896.out HO_7.out (by decide))) | (show (Addr.add _ _).block ≠ _; rw [add_block]; exact Kd.own_blk (IsS106.own_ne HI896.out HO_7.out (by decide))) | exact Kd.own_blk (IsS106.own_ne HI896.out HO_7.out (by decide)))
    have HS3_ := keep_cell hk (hHeld.2.2.2.1) (by first | (rw [add_block]; exact Kd.own_blk (IsS106.own_ne HI896.out HO_903001.out (by decide))) | (show (Addr.add _ _).block ≠ _; rw [add_block]; exact Kd.own_blk (IsS106.own_ne HI896.out HO_903001.out (by decide))) | exact Kd.own_blk (IsS106.own_ne HI896.out HO_903001.out (by decide)))
    have HS4_ := keep_cell hk (hHeld.2.2.2.2.1) (by first | (rw [add_block]; exact Kd.own_blk (IsS106.own_ne HI896.out HO_903001.out (by decide))) | (show (Addr.add _ _).block ≠ _; rw [add_block]; exact Kd.own_blk (IsS106.own_ne HI896.out HO_903001.out (by decide))) | exact Kd.own_blk (IsS106.own_ne HI896.out HO_903001.out (by decide)))
    have HS5_ := keep_cell hk (hHeld.2.2.2.2.2.1) (by first | (rw [add_block]; exact Kd.own_blk (IsS106.own_ne HI896.out HO_903001.out (by decide))) | (show (Addr.add _ _).block ≠ _; rw [add_block]; exact Kd.own_blk (IsS106.own_ne HI896.out HO_903001.out (by decide))) | exact Kd.own_blk (IsS106.own_ne HI896.out HO_903001.out (by decide)))
    have HS6_ := keep_cell hk (hHeld.2.2.2.2.2.2.1) (by first | (rw [add_block]; exact Kd.own_blk (IsS106.own_ne HI896.out HO_903001.out (by decide))) | (show (Addr.add _ _).block ≠ _; rw [add_block]; exact Kd.own_blk (IsS106.own_ne HI896.out HO_903001.out (by decide))) | exact Kd.own_blk (IsS106.own_ne HI896.out HO_903001.out (by decide)))
    have HS7_ := keep_cell hk (hHeld.2.2.2.2.2.2.2) (by first | (rw [add_block]; exact Kd.own_blk (IsS106.own_ne HI896.out HO_903001.out (by decide))) | (show (Addr.add _ _).block ≠ _; rw [add_block]; exact Kd.own_blk (IsS106.own_ne HI896.out HO_903001.out (by decide))) | exact Kd.own_blk (IsS106.own_ne HI896.out HO_903001.out (by decide)))
    refine ⟨_, rfl, ?_⟩
    replace HO_903001 := Aside0.mk (Kd.R_mono (Kd.R_keep (IsS106.apart (show IsS106 w _ g896 t894 x897001_4 from ni106_52 HI896.out) (nr_ HO_903001.out) (by decide)) hk (fun _ h => h.2)) (fun _ h => h.1))
    replace BK893 := kk_ BK893 hk NB893_896
    replace BK902 := kk_ BK902 hk NB902_896
    have HO915 := Aside0.mk (Kd.R_lower (Kd.R_new' ho0 (Kd.R_lt (nr_ HO_7.out))) (below_size (ng106_52 HB.out)))
    replace HO_7 := Aside0.mk (Kd.R_mono (Kd.R_told (Kd.R_oldK (IsS106.apart (show IsS106 w _ g896 t894 x897001_4 from ni106_52 HI896.out) (nr_ HO_7.out) (by decide)) hk) (Kd.R_base ho0)) (fun _ h_ => h_.1))
    replace HB := Aside0.mk (hb)
    replace HI896 := Aside0.mk (hi)
    (try clear hb)
    (try clear hb2)
    (try clear hk)
    (try clear hi)
    (try clear ho0)
    refine hK.out _ _ ⟨ct_ BK902.out 0, ct_ BK902.out 1, HS2_, HS3_, HS4_, HS5_, HS6_, HS7_⟩ (fun hHeld => ?_)
    clear hK K
    refine nm1_ (some 47) ?_
    refine one_ (i := 16) (N := none) (bm_ 19 131071) rfl rfl (one_of HT_.out (by kernel_rfl)) (by decide) (fun K hK => ?_)
    have hs57 : w56.cell? ⟨gb893, 0, none⟩ = some (.int .i64 0) := ct_ BK893.out 0
    have hfs57 := blk_frozen BK893.out 0
    have hns57_1 := NB902_893.out
    have hms57_1 := NB893_902.out
    have hs58 : w56.cell? ⟨gb893, 1, none⟩ = some (.slice none 0 0) := ct_ BK893.out 1
    have hfs58 := blk_frozen BK893.out 1
    have hns58_1 := NB902_893.out
    have hms58_1 := NB893_902.out
    refine skip_ (w1 := ?_) (by rfl) rfl ?_ ?_
    rotate_left
    ·go_simp
     rfl
    refine hK.out _ _ ⟨((cell_far (p := ⟨gb893, _, none⟩) NB902_893.out _).trans (((cell_far (p := ⟨gb893, _, none⟩) NB902_893.out _).trans (hHeld.1)))), ((cell_far (p := ⟨gb893, _, none⟩) NB902_893.out _).trans (((cell_far (p := ⟨gb893, _, none⟩) NB902_893.out _).trans (hHeld.2.1)))), ((cell_far (p := ⟨gb893, _, none⟩) (by first | exact Kd.own_blk (Kd.R_ne HO_7.out BK893.out (by decide)) | (rw [add_block]; exact Kd.own_blk (Kd.R_ne HO_7.out BK893.out (by decide))) | (show (Addr.add _ _).block ≠ _; rw [add_block]; exact Kd.own_blk (Kd.R_ne HO_7.out BK893.out (by decide))) | (dsimp only; exact Kd.own_blk (Kd.R_ne HO_7.out BK893.out (by decide)))) _).trans (((cell_far (p := ⟨gb893, _, none⟩) (by first | exact Kd.own_blk (Kd.R_ne HO_7.out BK893.out (by decide)) | (rw [add_block]; exact Kd.own_blk (Kd.R_ne HO_7.out BK893.out (by decide))) | (show (Addr.add _ _).block ≠ _; rw [add_block]; exact Kd.own_blk (Kd.R_ne HO_7.out BK893.out (by decide))) | (dsimp only; exact Kd.own_blk (Kd.R_ne HO_7.out BK893.out (by decide)))) _).trans (hHeld.2.2.1)))), ((cell_far (p := ⟨gb893, _, none⟩) (by first | exact Kd.own_blk (Kd.R_ne HO_903001.out BK893.out (by decide)) | (rw [add_block]; exact Kd.own_blk (Kd.R_ne HO_903001.out BK893.out (by decide))) | (show (Addr.add _ _).block ≠ _; rw [add_block]; exact Kd.own_blk (Kd.R_ne HO_903001.out BK893.out (by decide))) | (dsimp only; exact Kd.own_blk (Kd.R_ne HO_903001.out BK893.out (by decide)))) _).trans (((cell_far (p := ⟨gb893, _, none⟩) (by first | exact Kd.own_blk (Kd.R_ne HO_903001.out BK893.out (by decide)) | (rw [add_block]; exact Kd.own_blk (Kd.R_ne HO_903001.out BK893.out (by decide))) | (show (Addr.add _ _).block ≠ _; rw [add_block]; exact Kd.own_blk (Kd.R_ne HO_903001.out BK893.out (by decide))) | (dsimp only; exact Kd.own_blk (Kd.R_ne HO_903001.out BK893.out (by decide)))) _).trans (hHeld.2.2.2.1)))), ((cell_far (p := ⟨gb893, _, none⟩) (by first | exact Kd.own_blk (Kd.R_ne HO_903001.out BK893.out (by decide)) | (rw [add_block]; exact Kd.own_blk (Kd.R_ne HO_903001.out BK893.out (by decide))) | (show (Addr.add _ _).block ≠ _; rw [add_block]; exact Kd.own_blk (Kd.R_ne HO_903001.out BK893.out (by decide))) | (dsimp only; exact Kd.own_blk (Kd.R_ne HO_903001.out BK893.out (by decide)))) _).trans (((cell_far (p := ⟨gb893, _, none⟩) (by first | exact Kd.own_blk (Kd.R_ne HO_903001.out BK893.out (by decide)) | (rw [add_block]; exact Kd.own_blk (Kd.R_ne HO_903001.out BK893.out (by decide))) | (show (Addr.add _ _).block ≠ _; rw [add_block]; exact Kd.own_blk (Kd.R_ne HO_903001.out BK893.out (by decide))) | (dsimp only; exact Kd.own_blk (Kd.R_ne HO_903001.out BK893.out (by decide)))) _).trans (hHeld.2.2.2.2.1)))), ((cell_far (p := ⟨gb893, _, none⟩) (by first | exact Kd.own_blk (Kd.R_ne HO_903001.out BK893.out (by decide)) | (rw [add_block]; exact Kd.own_blk (Kd.R_ne HO_903001.out BK893.out (by decide))) | (show (Addr.add _ _).block ≠ _; rw [add_block]; exact Kd.own_blk (Kd.R_ne HO_903001.out BK893.out (by decide))) | (dsimp only; exact Kd.own_blk (Kd.R_ne HO_903001.out BK893.out (by decide)))) _).trans (((cell_far (p := ⟨gb893, _, none⟩) (by first | exact Kd.own_blk (Kd.R_ne HO_903001.out BK893.out (by decide)) | (rw [add_block]; exact Kd.own_blk (Kd.R_ne HO_903001.out BK893.out (by decide))) | (show (Addr.add _ _).block ≠ _; rw [add_block]; exact Kd.own_blk (Kd.R_ne HO_903001.out BK893.out (by decide))) | (dsimp only; exact Kd.own_blk (Kd.R_ne HO_903001.out BK893.out (by decide)))) _).trans (hHeld.2.2.2.2.2.1)))), ((cell_far (p := ⟨gb893, _, none⟩) (by first | exact Kd.own_blk (Kd.R_ne HO_903001.out BK893.out (by decide)) | (rw [add_block]; exact Kd.own_blk (Kd.R_ne HO_903001.out BK893.out (by decide))) | (show (Addr.add _ _).block ≠ _; rw [add_block]; exact Kd.own_blk (Kd.R_ne HO_903001.out BK893.out (by decide))) | (dsimp only; exact Kd.own_blk (Kd.R_ne HO_903001.out BK893.out (by decide)))) _).trans (((cell_far (p := ⟨gb893, _, none⟩) (by first | exact Kd.own_blk (Kd.R_ne HO_903001.out BK893.out (by decide)) | (rw [add_block]; exact Kd.own_blk (Kd.R_ne HO_903001.out BK893.out (by decide))) | (show (Addr.add _ _).block ≠ _; rw [add_block]; exact Kd.own_blk (Kd.R_ne HO_903001.out BK893.out (by decide))) | (dsimp only; exact Kd.own_blk (Kd.R_ne HO_903001.out BK893.out (by decide)))) _).trans (hHeld.2.2.2.2.2.2.1)))), ((cell_far (p := ⟨gb893, _, none⟩) (by first | exact Kd.own_blk (Kd.R_ne HO_903001.out BK893.out (by decide)) | (rw [add_block]; exact Kd.own_blk (Kd.R_ne HO_903001.out BK893.out (by decide))) | (show (Addr.add _ _).block ≠ _; rw [add_block]; exact Kd.own_blk (Kd.R_ne HO_903001.out BK893.out (by decide))) | (dsimp only; exact Kd.own_blk (Kd.R_ne HO_903001.out BK893.out (by decide)))) _).trans (((cell_far (p := ⟨gb893, _, none⟩) (by first | exact Kd.own_blk (Kd.R_ne HO_903001.out BK893.out (by decide)) | (rw [add_block]; exact Kd.own_blk (Kd.R_ne HO_903001.out BK893.out (by decide))) | (show (Addr.add _ _).block ≠ _; rw [add_block]; exact Kd.own_blk (Kd.R_ne HO_903001.out BK893.out (by decide))) | (dsimp only; exact Kd.own_blk (Kd.R_ne HO_903001.out BK893.out (by decide)))) _).trans (hHeld.2.2.2.2.2.2.2))))⟩ (fun hHeld => ?_)
    clear hK K
    refine pu_ 17 3 (bm_ 19 262143) HT_.out ?_
    refine pu_ 18 4 (bm_ 19 524287) HT_.out ?_
    refine done_ (done_of HT_.out (by kernel_rfl)) ?_
    try go_wp2
    refine bodyPost_ret (results_ctt rfl _ _ gb893 29 #[.int .i64 t897, .slice (some ad912) t898.length co13] (0, 0) _ rfl (np_ BK893.out) Try.underlying29 rfl (by kernel_rfl)) rfl ?_
    exact ⟨_, _, _, by first | rfl | (simp [errW_none, errW_some] <;> rfl) | (simp only [← hji48]; first | rfl | (simp [errW_none, errW_some] <;> rfl)) | (simp [*, errW_none, errW_some] <;> rfl), by (with_reducible repeat (first | apply Kd.R_alloc | apply Kd.R_drewN | apply Kd.R_drew)); exact Kd.R_mono (rf2_ (Kd.R_types HO_903001.out BK893.out (by decide))) (fun _ hk => trivial), by (with_reducible repeat (first | apply Kd.R_alloc | apply Kd.R_drewN | apply Kd.R_drew)); exact Kd.R_mono (rf2_ (Kd.R_types HO_7.out BK893.out (by decide))) (fun _ hk => by first | exact hk.1.2 | trivial | simp_all), by (with_reducible repeat (first | apply Kd.R_alloc | apply Kd.R_drewN | apply Kd.R_drew)); exact Kd.R_mono (rf2_ (Kd.R_types HO915.out BK893.out (by decide))) (fun _ hk => by first | exact hk.1.2 | trivial | simp_all), by repeat (first | (with_reducible first | exact HB.out | apply below_alloc | apply pw_below_drewN | apply below_drew1 | refine below_set ?_ (IsS106.ge HI896.out) | refine below_set ?_ GE893.out | refine below_set ?_ GE902.out) | exact HB.out)⟩
end Go.Proofs.Ytpjmkghmjpbldaa.Print
