-- Made by this session's own program (wip/patch_print.py, over the kit's print). Lean checks it.
import Derived.Test.YtpjmkghmjpbldaaPrint0
import Derived.Test.YtpjmkghmjpbldaaPrintB
import Derived.Test.YtpjmkghmjpbldaaPrintF43
import Derived.Test.YtpjmkghmjpbldaaPrintF47
import Derived.Test.YtpjmkghmjpbldaaPrintF52
import Derived.Test.YtpjmkghmjpbldaaPrintF53
import Derived.Test.YtpjmkghmjpbldaaPrintF54
namespace Go.Proofs.Ytpjmkghmjpbldaa.Print
open Go.RowKit Go.Proofs.YtpjmkghmjpbldaaW.PrintWords Go.Proofs.YtpjmkghmjpbldaaW.PrintLast Go.Proofs.YtpjmkghmjpbldaaW.PrintMore Go.Proofs.YtpjmkghmjpbldaaX
attribute [local go_sem] max2_int min2_int max_two min_two max_three min_three max_four min_four   -- for this text's walks alone
set_option linter.unusedVariables false
set_option linter.unusedSimpArgs false

abbrev z15_0 := bm_ 43 0
abbrev z15_1 := bm_ 43 2
abbrev z15_2 := bm_ 43 3
abbrev z15_3 := bm_ 43 7
abbrev z15_4 := bm_ 43 15
abbrev z15_5 := bm_ 43 31
abbrev z15_6 := bm_ 43 63
abbrev z15_7 := bm_ 43 127
abbrev z15_8 := bm_ 43 255
abbrev z15_9 := bm_ 43 511
abbrev z15_10 := bm_ 43 1023
abbrev z15_11 := bm_ 43 2047
abbrev z15_12 := bm_ 43 4095
abbrev z15_13 := bm_ 43 8191
abbrev z15_14 := bm_ 43 16383
abbrev z15_15 := bm_ 43 32767
abbrev z15_16 := bm_ 43 65535
abbrev z15_17 := bm_ 43 131071
abbrev z15_18 := bm_ 43 262143
abbrev z15_19 := bm_ 43 524287
abbrev z15_20 := bm_ 43 1048575
abbrev z15_21 := bm_ 43 2097151
abbrev z15_22 := bm_ 43 4194303
abbrev z15_23 := bm_ 43 8388607
abbrev z15_24 := bm_ 43 16777215
abbrev z15_25 := bm_ 43 33554431
abbrev z15_26 := bm_ 43 67108863
abbrev z15_27 := bm_ 43 134217727
abbrev z15_28 := bm_ 43 268435455
abbrev z15_29 := bm_ 43 536870911
abbrev z15_30 := bm_ 43 1073741823
abbrev z15_31 := bm_ 43 274877906943
abbrev z15_32 := bm_ 43 549755813887
abbrev z15_33 := bm_ 43 1099511627775
abbrev z15_34 := bm_ 43 2199023255551
abbrev z15_35 := bm_ 43 4398046511103
abbrev z15_36 := bm_ 43 8796093022207
abbrev z15_37 := bm_ 43 2147483647
abbrev z15_38 := bm_ 43 4294967295
abbrev z15_39 := bm_ 43 8589934591
abbrev z15_40 := bm_ 43 17179869183
abbrev z15_41 := bm_ 43 34359738367
abbrev z15_42 := bm_ 43 68719476735
abbrev z15_43 := bm_ 43 137438953471
abbrev rR15 := @Kd.R_reads'
/-! ### laws_FnWalkJoin: function 15 -/
def laws_FnWalkJoin.j0 : Nat → List Int → List Int → List Int → Bool → List Int → Bool → Bool → Int → List (S37) → Option (Bool)
  | 0, _, _, _, _, _, _, _, _, _ => none
  | k + 1, x4, x5, x6, x7, x8, x9, x45, x966000, x966001 => if x45 = true then (if (x7 == x9) = true then ((laws_wkInts.f k x6 x8).bind fun t975 => (some t975)) else (some false)) else ((impl_WalkOk.f k x966000 x966001 x6).bind fun t976 => (if t976 = true then (if (x6.length : Int) = (wrap64 ((x4.length : Int) + (x5.length : Int))) then (if 0 ≤ (x4.length : Int) then (if (x4.length : Int) ≤ (x6.length : Int) then ((laws_wkInts.f k (x6.take ((x4.length : Int) : Int).toNat) x4).bind fun t981 => (if t981 = true then ((laws_wkInts.f k (x6.drop ((x4.length : Int) : Int).toNat) x5).bind fun t986 => (if t986 = true then ((impl_WalkCost.f k x966000 x966001 x6).bind fun t987 => ((impl_WalkCost.f k x966000 x966001 x4).bind fun t988 => ((impl_WalkCost.f k x966000 x966001 x5).bind fun t989 => (some (t987 == (wrap64 (t988 + t989))))))) else (some false))) else (some false))) else (none)) else (none)) else (some false)) else (some false)))
def laws_FnWalkJoin.f (k : Nat) (l0 : List Int) : Option (Bool) := if (l0.length : Int) > 1048576 then (some true) else ((spec_DrawWalkJoin.f k l0).bind fun bt955 => ((impl_WalkJoin.f k bt955.1 bt955.2.1 bt955.2.2.1 bt955.2.2.2).bind fun bt966 => ((spec_WalkJoin.f k bt955.1 bt955.2.1 bt955.2.2.1 bt955.2.2.2).bind fun bt970 => (if (bt966.2 != bt970.2) = true then (laws_FnWalkJoin.j0 k bt955.2.2.1 bt955.2.2.2 bt966.1 bt966.2 bt970.1 bt970.2 true bt955.1 bt955.2.1) else ((laws_wkInts.f k bt966.1 bt970.1).bind fun t974 => (if t974 = true then (laws_FnWalkJoin.j0 k bt955.2.2.1 bt955.2.2.2 bt966.1 bt966.2 bt970.1 bt970.2 (!bt966.2) bt955.1 bt955.2.1) else (laws_FnWalkJoin.j0 k bt955.2.2.1 bt955.2.2.2 bt966.1 bt966.2 bt970.1 bt970.2 true bt955.1 bt955.2.1)))))))
theorem laws_FnWalkJoin.mono_l : ∀ k, (∀ y0 y1 y2 y3 y4 y5 y6 y7 y8, LeO (laws_FnWalkJoin.j0 k y0 y1 y2 y3 y4 y5 y6 y7 y8) (laws_FnWalkJoin.j0 (k + 1) y0 y1 y2 y3 y4 y5 y6 y7 y8))
  | 0 => fun _ _ _ _ _ _ _ _ _ r h => by simp [laws_FnWalkJoin.j0] at h
  | k + 1 => by
    have ih0 := laws_FnWalkJoin.mono_l k
    · intro y0 y1 y2 y3 y4 y5 y6 y7 y8
      unfold laws_FnWalkJoin.j0
      repeat' first | (with_reducible first | exact ih0 _ _ _ _ _ _ _ _ _ | exact impl_WalkCost.mono _ _ _ _ | exact impl_WalkJoin.mono _ _ _ _ _ | exact impl_WalkOk.mono _ _ _ _ | exact laws_wkInts.mono _ _ _ | exact spec_DrawWalkJoin.mono _ _ | exact spec_WalkJoin.mono _ _ _ _ _ | exact LeO.refl _ | exact LeO.none _ | refine LeO.ite ?_ ?_ | refine LeO.bind ?_ (fun _ => ?_)) | exact ih0 _ _ _ _ _ _ _ _ _ | exact impl_WalkCost.mono _ _ _ _ | exact impl_WalkJoin.mono _ _ _ _ _ | exact impl_WalkOk.mono _ _ _ _ | exact laws_wkInts.mono _ _ _ | exact spec_DrawWalkJoin.mono _ _ | exact spec_WalkJoin.mono _ _ _ _ _ | exact LeO.none _ | refine LeO.ite ?_ ?_ | refine LeO.bind ?_ (fun _ => ?_)
theorem laws_FnWalkJoin.mono : ∀ a0 k, LeO (laws_FnWalkJoin.f k a0) (laws_FnWalkJoin.f (k + 1) a0) := by
  intro a0 k
  have ih0 := laws_FnWalkJoin.mono_l k
  unfold laws_FnWalkJoin.f
  repeat' first | (with_reducible first | exact ih0 _ _ _ _ _ _ _ _ _ | exact impl_WalkCost.mono _ _ _ _ | exact impl_WalkJoin.mono _ _ _ _ _ | exact impl_WalkOk.mono _ _ _ _ | exact laws_wkInts.mono _ _ _ | exact spec_DrawWalkJoin.mono _ _ | exact spec_WalkJoin.mono _ _ _ _ _ | exact LeO.refl _ | exact LeO.none _ | refine LeO.ite ?_ ?_ | refine LeO.bind ?_ (fun _ => ?_)) | exact ih0 _ _ _ _ _ _ _ _ _ | exact impl_WalkCost.mono _ _ _ _ | exact impl_WalkJoin.mono _ _ _ _ _ | exact impl_WalkOk.mono _ _ _ _ | exact laws_wkInts.mono _ _ _ | exact spec_DrawWalkJoin.mono _ _ | exact spec_WalkJoin.mono _ _ _ _ _ | exact LeO.none _ | refine LeO.ite ?_ ?_ | refine LeO.bind ?_ (fun _ => ?_)
def laws_FnWalkJoin.T8 : Bool × List (List Nat × List Nat) := (true, [([], []), ([], []), ([0, 1], [0, 1]), ([2, 2], [2]), ([3], [3]), ([4, 3], [3, 4]), ([3], [3]), ([6, 3], [3, 6]), ([3], [3]), ([8, 3], [3, 8]), ([7, 9, 3], [3, 7, 9]), ([5, 10, 3], [3, 5, 10]), ([3, 11], [3, 11]), ([12, 3], [12]), ([13], [13]), ([13], [13]), ([15, 13], [13, 15]), ([14, 16, 13], [13, 14, 16]), ([13], [13]), ([17, 18, 13, 13], [13, 17, 18]), ([13, 19], [13, 19]), ([20, 19], [20]), ([21], [21]), ([21], [21]), ([23, 21], [21, 23]), ([22, 24, 21], [21, 22, 24]), ([21], [21]), ([25, 26, 21, 21], [21, 25, 26]), ([21, 27], [21, 27]), ([28, 27], [28]), ([29], [29]), ([29], [29]), ([30, 31, 29, 29], [29, 30, 31]), ([29], [29]), ([29], [29]), ([33, 34, 32, 29], [29, 33, 34]), ([29], [29]), ([29], [29]), ([36, 37, 35, 29], [29, 36, 37]), ([35, 38, 29], [29, 35, 38]), ([32, 39, 29], [29, 32, 39]), ([29, 40], [29, 40]), ([41, 38, 0, 1, 2, 3, 4, 5, 6, 7, 8, 9, 10, 11, 12, 13, 14, 15, 16, 17, 18, 19, 20, 21, 22, 23, 24, 25, 26, 27, 28, 29, 30, 31, 32, 33, 34, 35, 36, 37, 38, 39, 40, 41], [41])])
def laws_FnWalkJoin.B8 : List Nat := [0, 0, 3, 7, 15, 31, 15, 79, 15, 271, 975, 2047, 4095, 8191, 16383, 16383, 49151, 131071, 16383, 524287, 1048575, 2097151, 4194303, 4194303, 12582911, 33554431, 4194303, 134217727, 268435455, 536870911, 1073741823, 1073741823, 4294967295, 1073741823, 1073741823, 34359738367, 1073741823, 1073741823, 274877906943, 549755813887, 1099511627775, 2199023255551, 4398046511103]
theorem laws_FnWalkJoin.tab8 : rtab .any (opsOf Try.f15 8) = laws_FnWalkJoin.T8 := by kernel_rfl
theorem laws_FnWalkJoin.bits8 : waitsOk laws_FnWalkJoin.T8.2 laws_FnWalkJoin.B8 = true := by kernel_rfl
set_option maxHeartbeats 200000000 in
set_option maxRecDepth 100000 in
theorem laws_FnWalkJoin.calls (k : Nat) (A0 : Option Addr) (c0 : Nat) (l0 : List Int) (r : Bool) (w : World) (hr0 : Kd.C (Kd.int .u8) w A0 l0.length l0) (hc0 : l0.length ≤ c0) (h : laws_FnWalkJoin.f k l0 = some r) :
    Calls Try.prog 15 #[.slice A0 l0.length c0] w fun e w' => e = .returned (.bool r) ∧ Below w.heap.size w w' := by
  have hu29 := Try.underlying29
  have HR0 := Aside0.mk hr0
  have HC0 := Aside0.mk hc0
  clear hr0 hc0
  have HB := Aside0.mk (Below.refl w.heap.size w)
  have H : (if (l0.length : Int) > 1048576 then (some true) else ((spec_DrawWalkJoin.f k l0).bind fun bt955 => ((impl_WalkJoin.f k bt955.1 bt955.2.1 bt955.2.2.1 bt955.2.2.2).bind fun bt966 => ((spec_WalkJoin.f k bt955.1 bt955.2.1 bt955.2.2.1 bt955.2.2.2).bind fun bt970 => (if (bt966.2 != bt970.2) = true then (laws_FnWalkJoin.j0 k bt955.2.2.1 bt955.2.2.2 bt966.1 bt966.2 bt970.1 bt970.2 true bt955.1 bt955.2.1) else ((laws_wkInts.f k bt966.1 bt970.1).bind fun t974 => (if t974 = true then (laws_FnWalkJoin.j0 k bt955.2.2.1 bt955.2.2.2 bt966.1 bt966.2 bt970.1 bt970.2 (!bt966.2) bt955.1 bt955.2.1) else (laws_FnWalkJoin.j0 k bt955.2.2.1 bt955.2.2.2 bt966.1 bt966.2 bt970.1 bt970.2 true bt955.1 bt955.2.1)))))))) = some r := h
  clear h
  by_cases c2 : (l0.length : Int) > 1048576
  ·rw [if_pos c2] at H
   have c2b0 : decide (1048576 < (l0.length : Int)) = true := decide_eq_true c2
   have c2b1 : decide (1048576 < l0.length) = true := decide_eq_true (by omega)
   clear c2
   obtain rfl := Option.some.inj H
   go_enter Try.func15, Try.ntmps15
   go_wp2
   go_ret
   exact ⟨nw_, ne_ HB.out⟩
  rw [if_neg c2] at H
  have c2b0 : decide (1048576 < (l0.length : Int)) = false := decide_eq_false c2
  have c2b1 : decide (1048576 < l0.length) = false := decide_eq_false (by omega)
  clear c2
  replace H := Option.bind_eq_some_iff.mp H
  obtain ⟨⟨t955, t956, t959, t962⟩, A30, H⟩ := H
  try dsimp only at H
  have A3 := Aside0.mk A30
  clear A30
  replace H := Option.bind_eq_some_iff.mp H
  obtain ⟨⟨t966, t969⟩, A40, H⟩ := H
  try dsimp only at H
  have A4 := Aside0.mk A40
  clear A40
  replace H := Option.bind_eq_some_iff.mp H
  obtain ⟨⟨t970, t973⟩, A50, H⟩ := H
  try dsimp only at H
  have A5 := Aside0.mk A50
  clear A50
  have HC6 := Aside0.mk H
  clear H
  go_enter Try.func15, Try.ntmps15
  go_upto_region 6 with (first | ((with_reducible refine gate_callee (f := 52) rfl ?_); refine gl_ (some 15) Try.func52 #[.slice A0 l0.length c0] ?_; (with_reducible refine (spec_DrawWalkJoin.calls k _ _ l0 t955 t956 t959 t962 _ ?side1 ?side2 A3.out).mono ?_); (case side1 => repeat (first | exact HR0.out | (with_reducible refine Kd.C_alloc ?_ _) | (with_reducible refine Kd.C_drewN ?_ _) | (with_reducible refine Kd.C_drew ?_))); (case side2 => exact HC0.out); rintro e w7 ⟨v957, v960, v963, rfl, ho0, ho1, ho2, hb⟩; refine ⟨_, rfl, ?_⟩; have HO958 := Aside0.mk (Kd.R_lower ho0 (below_size (ne_ HB.out))); have HO961 := Aside0.mk (Kd.R_lower ho1 (below_size (ne_ HB.out))); have HO964 := Aside0.mk (Kd.R_lower ho2 (below_size (ne_ HB.out))); replace HB := kB_ HB hb; (try clear hb); (try clear hb2); (try clear hk); (try clear hi); (try clear ho0); (try clear ho1); (try clear ho2)) | ((with_reducible refine gate_dst (N := 3) rfl ?_); (try (refine gate_guard (by rfl) ?_; dsimp only)); refine bx_ 3 #[.int .i64 0, .slice none 0 0] 29 ?_; intro gb965 hg w8 hbox hb; have BK965 := Aside0.mk (hbox); have GW965 := Aside0.mk (zs_ hg (ne_ HB.out)); have GE965 := Aside0.mk (zs_ hg (ne_ HB.out)); replace HO958 := kR_ HO958 hb; replace HO961 := kR_ HO961 hb; replace HO964 := kR_ HO964 hb; replace HB := kB_ HB hb; clear hb hbox hg; obtain ⟨hcz9_0, hcz9_1, hfz9_0, hfz9_1⟩ := cz2_ BK965.out; obtain ⟨Ao10, co10, eo10⟩ := Kd.R_slice HO958.out; subst eo10) | ((with_reducible refine gate_store (t := 29) (p := 3) rfl ?_); refine store_event (t := 29) (p := 3) (v := ?vo_w11) (w1 := ((w8.setCell ⟨gb965, 0, none⟩ (.int .i64 t955)).setCell ⟨gb965, 1, none⟩ (.slice Ao10 t956.length co10))) ?hg ?ho ?hn ?hr ?_; (case ho => rfl); (case hg => rfl); (case hn => rfl); (case hr => first | (go_simp; done) | (go_simp; rfl)); intro w11 hw; replace HO958 : Aside0 (Kd.R k37 37 w11 w.heap.size (fun _ => True) (.slice Ao10 t956.length co10) t956) := ⟨(by rw [hw]; exact (by (with_reducible repeat (first | apply Kd.R_alloc | apply Kd.R_drewN | apply Kd.R_drew)); exact Kd.R_mono (rf2_ (Kd.R_types HO958.out BK965.out (by decide))) (fun _ hk => trivial)))⟩; replace HO961 : Aside0 (Kd.R (Kd.int .i64) 3 w11 w.heap.size (fun k_ => some k_ ≠ (v963 : Value).ownBlock) v960 t959) := ⟨(by rw [hw]; exact (by (with_reducible repeat (first | apply Kd.R_alloc | apply Kd.R_drewN | apply Kd.R_drew)); exact Kd.R_mono (rf2_ (Kd.R_types HO961.out BK965.out (by decide))) (fun _ hk => hk.1)))⟩; replace HO964 : Aside0 (Kd.R (Kd.int .i64) 3 w11 w.heap.size (fun k_ => some k_ ≠ (v960 : Value).ownBlock) v963 t962) := ⟨(by rw [hw]; exact (by (with_reducible repeat (first | apply Kd.R_alloc | apply Kd.R_drewN | apply Kd.R_drew)); exact Kd.R_mono (rf2_ (Kd.R_types HO964.out BK965.out (by decide))) (fun _ hk => hk.1)))⟩; replace BK965 : Aside0 (w11.heap[gb965]? = some (.cells #[.int .i64 t955, .slice Ao10 t956.length co10] 29 (0, 0))) := ⟨(by rw [hw]; exact (np_ BK965.out))⟩; replace HB : Aside0 (Below w.heap.size w w11) := ⟨(by rw [hw]; exact (ne_ HB.out))⟩; clear hw; obtain ⟨hcz12_0, hcz12_1, hfz12_0, hfz12_1⟩ := cz2_ BK965.out; obtain ⟨Ao13, co13, eo13⟩ := Kd.R_slice HO961.out; subst eo13; obtain ⟨Ao14, co14, eo14⟩ := Kd.R_slice HO964.out; subst eo14) | ((with_reducible refine gate_callee (f := 53) rfl ?_); refine gl_ (some 23) Try.func53 #[.agg #[.int .i64 t955, .slice Ao10 t956.length co10], .slice Ao13 t959.length co13, .slice Ao14 t962.length co14] ?_; (with_reducible refine (impl_WalkJoin.calls k t955 _ _ t956 (fun k_ => some k_ = (.slice Ao13 t959.length co13 : Value).ownBlock) _ _ t959 (fun k_ => some k_ = (.slice Ao14 t962.length co14 : Value).ownBlock) _ _ t962 t966 t969 _ ?side1 ?side2 ?side3 ?side4 A4.out).mono ?_); (case side1 => exact nc_ (rR15 HO958.out).2.2); (case side2 => exact (rR15 HO958.out).2.1); (case side3 => exact Kd.R_V (Kd.R_tight rfl (Kd.R_types (Kd.R_apart' (HO961.out) (Kd.R_typed HO958.out) (by decide)) BK965.out (by decide)))); (case side4 => exact Kd.R_V (Kd.R_tight rfl (Kd.R_types (Kd.R_apart' (HO964.out) (Kd.R_typed HO958.out) (by decide)) BK965.out (by decide)))); rintro e w15 ⟨v967, rfl, ho0, hb⟩; refine ⟨_, rfl, ?_⟩; have HO968 := Aside0.mk (Kd.R_lower (Kd.R_new' (Kd.R_new' (Kd.R_mono (ok' := fun k_ => True) ho0 (fun _ hk_ => trivial)) (Kd.R_lt (nr_ HO961.out))) (Kd.R_lt (nr_ HO964.out))) (below_size (ne_ HB.out))); replace HO958 := kR_ HO958 hb; replace HO961 := Aside0.mk (Kd.R_elder' (nr_ HO961.out) (Kd.R_base ho0) hb); replace HO964 := Aside0.mk (Kd.R_elder' (nr_ HO964.out) (Kd.R_base ho0) hb); replace BK965 := kb_ BK965 hb; replace HB := kB_ HB hb; (try clear hb); (try clear hb2); (try clear hk); (try clear hi); (try clear ho0); obtain ⟨hcz16_0, hcz16_1, hfz16_0, hfz16_1⟩ := cz2_ BK965.out) | ((with_reducible refine gate_callee (f := 54) rfl ?_); refine gl_ (some 30) Try.func54 #[.agg #[.int .i64 t955, .slice Ao10 t956.length co10], .slice Ao13 t959.length co13, .slice Ao14 t962.length co14] ?_; (with_reducible refine (spec_WalkJoin.calls k t955 _ _ t956 _ _ t959 _ _ t962 t970 t973 _ ?side1 ?side2 ?side3 ?side4 ?side5 ?side6 A5.out).mono ?_); (case side1 => exact nc_ (rR15 HO958.out).2.2); (case side2 => exact (rR15 HO958.out).2.1); (case side3 => exact nc_ (rR15 HO961.out).2.2); (case side4 => exact (rR15 HO961.out).2.1); (case side5 => exact nc_ (rR15 HO964.out).2.2); (case side6 => exact (rR15 HO964.out).2.1); rintro e w17 ⟨v971, rfl, ho0, hb⟩; refine ⟨_, rfl, ?_⟩; have HO972 := Aside0.mk (Kd.R_lower (Kd.R_new' (Kd.R_new' (Kd.R_new' ho0 (Kd.R_lt (nr_ HO961.out))) (Kd.R_lt (nr_ HO964.out))) (Kd.R_lt (nr_ HO968.out))) (below_size (ne_ HB.out))); replace HO958 := kR_ HO958 hb; replace HO961 := Aside0.mk (Kd.R_elder' (nr_ HO961.out) (Kd.R_base ho0) hb); replace HO964 := Aside0.mk (Kd.R_elder' (nr_ HO964.out) (Kd.R_base ho0) hb); replace HO968 := Aside0.mk (Kd.R_elder' (nr_ HO968.out) (Kd.R_base ho0) hb); replace BK965 := kb_ BK965 hb; replace HB := kB_ HB hb; (try clear hb); (try clear hb2); (try clear hk); (try clear hi); (try clear ho0)))
  (try simp only [Act.put, List.setIfInBounds_toArray, List.set_cons_zero, List.set_cons_succ])
  go_cut [45] (fun v45 wc => ∃ (kq : Nat) (x45_5 : Bool), v45 = .bool x45_5 ∧ Aside0 (laws_FnWalkJoin.j0 kq t959 t962 t966 t969 t970 t973 x45_5 t955 t956 = some r) ∧ Aside0 (kq ≤ k) ∧ Aside0 (Kd.R (Kd.int .i64) 3 wc w.heap.size (fun k_ => some k_ ≠ ((.slice Ao14 t962.length co14) : Value).ownBlock ∧ some k_ ≠ (v967 : Value).ownBlock ∧ some k_ ≠ (v971 : Value).ownBlock) (.slice Ao13 t959.length co13) t959) ∧ Aside0 (Kd.R (Kd.int .i64) 3 wc w.heap.size (fun k_ => some k_ ≠ ((.slice Ao13 t959.length co13) : Value).ownBlock ∧ some k_ ≠ (v967 : Value).ownBlock ∧ some k_ ≠ (v971 : Value).ownBlock) (.slice Ao14 t962.length co14) t962) ∧ Aside0 (Kd.R (Kd.int .i64) 3 wc w.heap.size (fun k_ => some k_ ≠ ((.slice Ao13 t959.length co13) : Value).ownBlock ∧ some k_ ≠ ((.slice Ao14 t962.length co14) : Value).ownBlock ∧ some k_ ≠ (v971 : Value).ownBlock) v967 t966) ∧ Aside0 (Kd.R (Kd.int .i64) 3 wc w.heap.size (fun k_ => some k_ ≠ ((.slice Ao13 t959.length co13) : Value).ownBlock ∧ some k_ ≠ ((.slice Ao14 t962.length co14) : Value).ownBlock ∧ some k_ ≠ (v967 : Value).ownBlock) v971 t970) ∧ Aside0 (Kd.R k37 37 wc w.heap.size (fun _ => True) (.slice Ao10 t956.length co10) t956) ∧ Aside0 (wc.heap[gb965]? = some (.cells #[.int .i64 t955, (.slice Ao10 t956.length co10)] 29 (0, 0))) ∧ Aside0 (Below w.heap.size w wc))
  case first =>
   have H := HC6.out
   clear HC6
   by_cases c18 : (t969 != t973) = true
   ·rw [if_pos c18] at H
    have c18b0 : (t969 != t973) = true := c18
    (try (have c18b1 : decide (t969 = t973) = false := by simpa using c18))
    (try (have c18b2 : (t969 == t973) = false := by simpa using c18))
    (try (have c18b3 : ¬ (t969 = t973) := by simpa using c18))
    clear c18
    (first | rw [c18b0] | (simp only [i64_w, i32_w]; rw [c18b0]) | skip)
    have H' := Aside0.mk H
    clear H
    go_wp2
    go_meet
    case rel => exact ⟨_, (true), ns_, H', ⟨by first | omega | exact Nat.le_refl _⟩, ⟨by (with_reducible repeat (first | apply Kd.R_alloc | apply Kd.R_drewN | apply Kd.R_drew)); exact Kd.R_mono HO961.out (fun _ hk => by first | exact ⟨hk.1.1, ⟨hk.1.2, hk.2⟩⟩ | trivial | simp_all)⟩, ⟨by (with_reducible repeat (first | apply Kd.R_alloc | apply Kd.R_drewN | apply Kd.R_drew)); exact Kd.R_mono HO964.out (fun _ hk => by first | exact ⟨hk.1.1, ⟨hk.1.2, hk.2⟩⟩ | trivial | simp_all)⟩, ⟨by (with_reducible repeat (first | apply Kd.R_alloc | apply Kd.R_drewN | apply Kd.R_drew)); exact Kd.R_mono HO968.out (fun _ hk => by first | exact ⟨hk.1.1.2, ⟨hk.1.2, hk.2⟩⟩ | trivial | simp_all)⟩, ⟨by (with_reducible repeat (first | apply Kd.R_alloc | apply Kd.R_drewN | apply Kd.R_drew)); exact Kd.R_mono HO972.out (fun _ hk => by first | exact ⟨hk.1.1.2, ⟨hk.1.2, hk.2⟩⟩ | trivial | simp_all)⟩, ⟨nr_ HO958.out⟩, ⟨nb_ BK965.out⟩, ⟨ne_ HB.out⟩⟩
   rw [if_neg c18] at H
   have c18b0 : (t969 != t973) = false := by simpa using c18
   (try (have c18b1 : decide (t969 = t973) = true := by simpa using c18))
   (try (have c18b2 : (t969 == t973) = true := by simpa using c18))
   clear c18
   (first | rw [c18b0] | (simp only [i64_w, i32_w]; rw [c18b0]) | skip)
   replace H := Option.bind_eq_some_iff.mp H
   obtain ⟨t974, A190, H⟩ := H
   try dsimp only at H
   have A19 := Aside0.mk A190
   clear A190
   by_cases c20 : t974 = true
   ·subst c20
    have H1 : (laws_FnWalkJoin.j0 k t959 t962 t966 t969 t970 t973 (!t969) t955 t956) = some r := by rw [if_pos rfl] at H; exact H
    clear H
    have H := H1
    clear H1
    have H' := Aside0.mk H
    clear H
    obtain ⟨Ao21, co21, eo21⟩ := Kd.R_slice HO968.out
    subst eo21
    obtain ⟨Ao22, co22, eo22⟩ := Kd.R_slice HO972.out
    subst eo22
    go_wp2_with (first | (go_at_call 30; (with_reducible refine (laws_wkInts.calls k _ _ t966 _ _ t970 true _ ?side1 ?side2 ?side3 ?side4 A19.out).mono ?_); (case side1 => exact nc_ (rR15 HO968.out).2.2); (case side2 => exact (rR15 HO968.out).2.1); (case side3 => exact nc_ (rR15 HO972.out).2.2); (case side4 => exact (rR15 HO972.out).2.1); rintro e w' ⟨rfl, ⟨nd, rfl⟩⟩))
    go_meet
    case rel => exact ⟨_, (!t969), ns_, H', ⟨by first | omega | exact Nat.le_refl _⟩, ⟨by (with_reducible repeat (first | apply Kd.R_alloc | apply Kd.R_drewN | apply Kd.R_drew)); exact Kd.R_mono HO961.out (fun _ hk => by first | exact ⟨hk.1.1, ⟨hk.1.2, hk.2⟩⟩ | trivial | simp_all)⟩, ⟨by (with_reducible repeat (first | apply Kd.R_alloc | apply Kd.R_drewN | apply Kd.R_drew)); exact Kd.R_mono HO964.out (fun _ hk => by first | exact ⟨hk.1.1, ⟨hk.1.2, hk.2⟩⟩ | trivial | simp_all)⟩, ⟨by (with_reducible repeat (first | apply Kd.R_alloc | apply Kd.R_drewN | apply Kd.R_drew)); exact Kd.R_mono HO968.out (fun _ hk => by first | exact ⟨hk.1.1.2, ⟨hk.1.2, hk.2⟩⟩ | trivial | simp_all)⟩, ⟨by (with_reducible repeat (first | apply Kd.R_alloc | apply Kd.R_drewN | apply Kd.R_drew)); exact Kd.R_mono HO972.out (fun _ hk => by first | exact ⟨hk.1.1.2, ⟨hk.1.2, hk.2⟩⟩ | trivial | simp_all)⟩, ⟨nr_ HO958.out⟩, ⟨nb_ BK965.out⟩, ⟨ne_ HB.out⟩⟩
   replace c20 := Bool.eq_false_iff.mpr c20
   subst c20
   have H1 : (laws_FnWalkJoin.j0 k t959 t962 t966 t969 t970 t973 true t955 t956) = some r := by rw [if_neg (show ¬ (false = true) by decide)] at H; exact H
   clear H
   have H := H1
   clear H1
   have H' := Aside0.mk H
   clear H
   obtain ⟨Ao23, co23, eo23⟩ := Kd.R_slice HO968.out
   subst eo23
   obtain ⟨Ao24, co24, eo24⟩ := Kd.R_slice HO972.out
   subst eo24
   go_wp2_with (first | (go_at_call 30; (with_reducible refine (laws_wkInts.calls k _ _ t966 _ _ t970 false _ ?side1 ?side2 ?side3 ?side4 A19.out).mono ?_); (case side1 => exact nc_ (rR15 HO968.out).2.2); (case side2 => exact (rR15 HO968.out).2.1); (case side3 => exact nc_ (rR15 HO972.out).2.2); (case side4 => exact (rR15 HO972.out).2.1); rintro e w' ⟨rfl, ⟨nd, rfl⟩⟩))
   go_meet
   case rel => exact ⟨_, (true), ns_, H', ⟨by first | omega | exact Nat.le_refl _⟩, ⟨by (with_reducible repeat (first | apply Kd.R_alloc | apply Kd.R_drewN | apply Kd.R_drew)); exact Kd.R_mono HO961.out (fun _ hk => by first | exact ⟨hk.1.1, ⟨hk.1.2, hk.2⟩⟩ | trivial | simp_all)⟩, ⟨by (with_reducible repeat (first | apply Kd.R_alloc | apply Kd.R_drewN | apply Kd.R_drew)); exact Kd.R_mono HO964.out (fun _ hk => by first | exact ⟨hk.1.1, ⟨hk.1.2, hk.2⟩⟩ | trivial | simp_all)⟩, ⟨by (with_reducible repeat (first | apply Kd.R_alloc | apply Kd.R_drewN | apply Kd.R_drew)); exact Kd.R_mono HO968.out (fun _ hk => by first | exact ⟨hk.1.1.2, ⟨hk.1.2, hk.2⟩⟩ | trivial | simp_all)⟩, ⟨by (with_reducible repeat (first | apply Kd.R_alloc | apply Kd.R_drewN | apply Kd.R_drew)); exact Kd.R_mono HO972.out (fun _ hk => by first | exact ⟨hk.1.1.2, ⟨hk.1.2, hk.2⟩⟩ | trivial | simp_all)⟩, ⟨nr_ HO958.out⟩, ⟨nb_ BK965.out⟩, ⟨ne_ HB.out⟩⟩
  case rest =>
   clear HC6
   try clear c2
   try clear c2b0
   try clear c2b1
   try clear hcz12_0
   try clear hcz12_1
   try clear hcz16_0
   try clear hcz16_1
   try clear hcz9_0
   try clear hcz9_1
   try clear hfz12_0
   try clear hfz12_1
   try clear hfz16_0
   try clear hfz16_1
   try clear hfz9_0
   try clear hfz9_1
   obtain ⟨kq, x45_5, rfl, HA, HJ5, HO_4, HO_5, HO_6, HO_8, HO_966001, BK965, HB⟩ := hcut
   cases kq with
   | zero => exact absurd HA.out (by simp [laws_FnWalkJoin.j0])
   | succ kj5 =>
    have H := HA.out
    clear HA
    simp only [laws_FnWalkJoin.j0] at H
    by_cases c25 : x45_5 = true
    ·subst c25
     rw [if_pos rfl] at H
     by_cases c26 : (t969 == t973) = true
     rotate_left
     ·rw [if_neg c26] at H
      have c26b0 : (t969 == t973) = false := by simpa using c26
      (try (have c26b1 : decide (t969 = t973) = false := by simpa using c26))
      (try (have c26b2 : (t969 == t973) = false := by simpa using c26))
      (try (have c26b3 : ¬ (t969 = t973) := by simpa using c26))
      clear c26
      obtain rfl := Option.some.inj H
      go_wp2
      go_ret
      exact ⟨nw_, ne_ HB.out⟩
     rw [if_pos c26] at H
     have c26b0 : (t969 == t973) = true := c26
     (try (have c26b1 : decide (t969 = t973) = true := by simpa using c26))
     (try (have c26b2 : (t969 == t973) = true := by simpa using c26))
     clear c26
     replace H := Option.bind_eq_some_iff.mp H
     obtain ⟨t975, A270, H⟩ := H
     replace H : (some t975) = some r := H
     have A27 := Aside0.mk A270
     clear A270
     obtain rfl := Option.some.inj H
     obtain ⟨Ao28, co28, eo28⟩ := Kd.R_slice HO_6.out
     subst eo28
     obtain ⟨Ao29, co29, eo29⟩ := Kd.R_slice HO_8.out
     subst eo29
     go_wp2_with (first | (go_at_call 30; (with_reducible refine (laws_wkInts.calls kj5 _ _ t966 _ _ t970 t975 _ ?side1 ?side2 ?side3 ?side4 A27.out).mono ?_); (case side1 => exact nc_ (rR15 HO_6.out).2.2); (case side2 => exact (rR15 HO_6.out).2.1); (case side3 => exact nc_ (rR15 HO_8.out).2.2); (case side4 => exact (rR15 HO_8.out).2.1); rintro e w' ⟨rfl, ⟨nd, rfl⟩⟩))
     go_ret
     exact ⟨nw_, ne_ HB.out⟩
    replace c25 := Bool.eq_false_iff.mpr c25
    subst c25
    have H1 : ((impl_WalkOk.f kj5 t955 t956 t966).bind fun t976 => (if t976 = true then (if (t966.length : Int) = (wrap64 ((t959.length : Int) + (t962.length : Int))) then (if 0 ≤ (t959.length : Int) then (if (t959.length : Int) ≤ (t966.length : Int) then ((laws_wkInts.f kj5 (t966.take ((t959.length : Int) : Int).toNat) t959).bind fun t981 => (if t981 = true then ((laws_wkInts.f kj5 (t966.drop ((t959.length : Int) : Int).toNat) t962).bind fun t986 => (if t986 = true then ((impl_WalkCost.f kj5 t955 t956 t966).bind fun t987 => ((impl_WalkCost.f kj5 t955 t956 t959).bind fun t988 => ((impl_WalkCost.f kj5 t955 t956 t962).bind fun t989 => (some (t987 == (wrap64 (t988 + t989))))))) else (some false))) else (some false))) else (none)) else (none)) else (some false)) else (some false))) = some r := by rw [if_neg (show ¬ (false = true) by decide)] at H; exact H
    clear H
    have H := H1
    clear H1
    replace H := Option.bind_eq_some_iff.mp H
    obtain ⟨t976, A300, H⟩ := H
    try dsimp only at H
    have A30 := Aside0.mk A300
    clear A300
    by_cases c31 : t976 = true
    rotate_left
    ·replace c31 := Bool.eq_false_iff.mpr c31
     subst c31
     have H1 : (some false) = some r := by rw [if_neg (show ¬ (false = true) by decide)] at H; exact H
     clear H
     have H := H1
     clear H1
     obtain rfl := Option.some.inj H
     try go_wp2
     replace HO_4 := Aside0.mk (Kd.R_drew HO_4.out)
     replace HO_5 := Aside0.mk (Kd.R_drew HO_5.out)
     replace HO_6 := Aside0.mk (Kd.R_drew HO_6.out)
     replace HO_8 := Aside0.mk (Kd.R_drew HO_8.out)
     replace HO_966001 := Aside0.mk (Kd.R_drew HO_966001.out)
     replace BK965 := Aside0.mk (blk_drew BK965.out)
     replace HB := Aside0.mk (below_drew1 HB.out)
     obtain ⟨Ao65, co65, eo65⟩ := Kd.R_slice HO_6.out
     (first | subst eo65 | (injection eo65 with f1_ f2_ f3_; have f4_ := f1_.symm; have f5_ := f3_.symm; clear f1_ f2_ f3_; subst f4_; subst f5_))
     refine start_ (n := 43) (S := fun w' => w'.cell? ⟨gb965, 0, none⟩ = some (.int .i64 t955) ∧ w'.cell? ⟨gb965, 1, none⟩ = some (.slice Ao10 t956.length co10)) (ds := []) z15_0 (by kernel_rfl) rfl rfl ⟨ct_ BK965.out 0, ct_ BK965.out 1⟩ (fun hHeld => ?_); refine with_tabW laws_FnWalkJoin.tab8 laws_FnWalkJoin.bits8 (fun HT_ HW_ => ?_)
     generalize wc.drew = w64 at HO_4 HO_5 HO_6 HO_8 HO_966001 BK965 HB hHeld ⊢
     refine pu_ 1 55 z15_1 HT_.out ?_
     refine tk_ 0 54 z15_2 HT_.out HW_.out hHeld ?_
     refine one_ (i := 2) (N := some 56) z15_3 rfl rfl (one_of HT_.out (by kernel_rfl)) (by decide) (fun K hK => ?_)
     refine go_ Try.func43 #[.agg #[.int .i64 t955, .slice Ao10 t956.length co10], .slice Ao65 t966.length co65] ?_
     with_reducible refine (impl_WalkOk.calls kj5 t955 _ _ t956 _ _ t966 false _ ?side1 ?side2 ?side3 ?side4 A30.out).mono ?_
     (case side1 => exact nc_ (rR15 HO_966001.out).2.2)
     (case side2 => exact (rR15 HO_966001.out).2.1)
     (case side3 => exact nc_ (rR15 HO_6.out).2.2)
     (case side4 => exact (rR15 HO_6.out).2.1)
     rintro e w66 ⟨rfl, hb⟩
     refine ⟨_, rfl, ?_⟩
     replace HO_4 := kR_ HO_4 hb
     replace HO_5 := kR_ HO_5 hb
     replace HO_6 := kR_ HO_6 hb
     replace HO_8 := kR_ HO_8 hb
     replace HO_966001 := kR_ HO_966001 hb
     replace BK965 := kb_ BK965 hb
     replace HB := kB_ HB hb
     (try clear hb)
     (try clear hb2)
     (try clear hk)
     (try clear hi)
     refine hK.out _ _ ⟨ct_ BK965.out 0, ct_ BK965.out 1⟩ (fun hHeld => ?_)
     clear hK K
     refine nm1_ (some 56) ?_
     refine pu_ 3 57 z15_4 HT_.out ?_
     refine un_ 4 58 z15_5 HT_.out ?_
     refine un_ 5 59 z15_6 HT_.out ?_
     refine un_ 6 60 z15_7 HT_.out ?_
     refine un_ 7 61 z15_8 HT_.out ?_
     refine un_ 8 62 z15_9 HT_.out ?_
     refine un_ 9 63 z15_10 HT_.out ?_
     refine un_ 10 64 z15_11 HT_.out ?_
     refine un_ 11 65 z15_12 HT_.out ?_
     refine pu_ 12 66 z15_13 HT_.out ?_
     refine pu_ 13 67 z15_14 HT_.out ?_
     refine un_ 14 68 z15_15 HT_.out ?_
     refine un_ 15 69 z15_16 HT_.out ?_
     refine un_ 16 70 z15_17 HT_.out ?_
     refine un_ 17 71 z15_18 HT_.out ?_
     refine un_ 18 72 z15_19 HT_.out ?_
     refine un_ 19 73 z15_20 HT_.out ?_
     refine pu_ 20 74 z15_21 HT_.out ?_
     refine pu_ 21 75 z15_22 HT_.out ?_
     refine un_ 22 76 z15_23 HT_.out ?_
     refine un_ 23 77 z15_24 HT_.out ?_
     refine un_ 24 78 z15_25 HT_.out ?_
     refine un_ 25 79 z15_26 HT_.out ?_
     refine un_ 26 80 z15_27 HT_.out ?_
     refine un_ 27 81 z15_28 HT_.out ?_
     refine pu_ 28 82 z15_29 HT_.out ?_
     refine pu_ 29 83 z15_30 HT_.out ?_
     refine un_ 30 84 z15_37 HT_.out ?_
     refine un_ 31 85 z15_38 HT_.out ?_
     refine un_ 32 86 z15_39 HT_.out ?_
     refine un_ 33 87 z15_40 HT_.out ?_
     refine un_ 34 88 z15_41 HT_.out ?_
     refine un_ 35 89 z15_42 HT_.out ?_
     refine un_ 36 90 z15_43 HT_.out ?_
     refine un_ 37 91 z15_31 HT_.out ?_
     refine un_ 38 92 z15_32 HT_.out ?_
     refine un_ 39 93 z15_33 HT_.out ?_
     refine un_ 40 94 z15_34 HT_.out ?_
     refine pu_ 41 95 z15_35 HT_.out ?_
     refine pu_ 42 2 z15_36 HT_.out ?_
     refine done_ (done_of HT_.out (by kernel_rfl)) ?_
     try go_wp2
     go_ret
     exact ⟨nw_, ne_ HB.out⟩

    subst c31
    rw [if_pos rfl] at H
    by_cases c32 : (t966.length : Int) = (wrap64 ((t959.length : Int) + (t962.length : Int)))
    rotate_left
    ·rw [if_neg c32] at H
     have c32b0 : ((t966.length : Int) == (wrap64 ((t959.length : Int) + (t962.length : Int)))) = false := beq_eq_false_iff_ne.mpr c32
     have c32b1 : ((t966.length : Int) != (wrap64 ((t959.length : Int) + (t962.length : Int)))) = true := bne_iff_ne.mpr c32
     obtain rfl := Option.some.inj H
     try go_wp2
     replace HO_4 := Aside0.mk (Kd.R_drew HO_4.out)
     replace HO_5 := Aside0.mk (Kd.R_drew HO_5.out)
     replace HO_6 := Aside0.mk (Kd.R_drew HO_6.out)
     replace HO_8 := Aside0.mk (Kd.R_drew HO_8.out)
     replace HO_966001 := Aside0.mk (Kd.R_drew HO_966001.out)
     replace BK965 := Aside0.mk (blk_drew BK965.out)
     replace HB := Aside0.mk (below_drew1 HB.out)
     obtain ⟨Ao62, co62, eo62⟩ := Kd.R_slice HO_6.out
     (first | subst eo62 | (injection eo62 with f1_ f2_ f3_; have f4_ := f1_.symm; have f5_ := f3_.symm; clear f1_ f2_ f3_; subst f4_; subst f5_))
     refine start_ (n := 43) (S := fun w' => w'.cell? ⟨gb965, 0, none⟩ = some (.int .i64 t955) ∧ w'.cell? ⟨gb965, 1, none⟩ = some (.slice Ao10 t956.length co10)) (ds := []) z15_0 (by kernel_rfl) rfl rfl ⟨ct_ BK965.out 0, ct_ BK965.out 1⟩ (fun hHeld => ?_); refine with_tabW laws_FnWalkJoin.tab8 laws_FnWalkJoin.bits8 (fun HT_ HW_ => ?_)
     generalize wc.drew = w61 at HO_4 HO_5 HO_6 HO_8 HO_966001 BK965 HB hHeld ⊢
     refine pu_ 1 55 z15_1 HT_.out ?_
     refine tk_ 0 54 z15_2 HT_.out HW_.out hHeld ?_
     refine one_ (i := 2) (N := some 56) z15_3 rfl rfl (one_of HT_.out (by kernel_rfl)) (by decide) (fun K hK => ?_)
     refine go_ Try.func43 #[.agg #[.int .i64 t955, .slice Ao10 t956.length co10], .slice Ao62 t966.length co62] ?_
     with_reducible refine (impl_WalkOk.calls kj5 t955 _ _ t956 _ _ t966 true _ ?side1 ?side2 ?side3 ?side4 A30.out).mono ?_
     (case side1 => exact nc_ (rR15 HO_966001.out).2.2)
     (case side2 => exact (rR15 HO_966001.out).2.1)
     (case side3 => exact nc_ (rR15 HO_6.out).2.2)
     (case side4 => exact (rR15 HO_6.out).2.1)
     rintro e w63 ⟨rfl, hb⟩
     refine ⟨_, rfl, ?_⟩
     replace HO_4 := kR_ HO_4 hb
     replace HO_5 := kR_ HO_5 hb
     replace HO_6 := kR_ HO_6 hb
     replace HO_8 := kR_ HO_8 hb
     replace HO_966001 := kR_ HO_966001 hb
     replace BK965 := kb_ BK965 hb
     replace HB := kB_ HB hb
     (try clear hb)
     (try clear hb2)
     (try clear hk)
     (try clear hi)
     refine hK.out _ _ ⟨ct_ BK965.out 0, ct_ BK965.out 1⟩ (fun hHeld => ?_)
     clear hK K
     refine nm1_ (some 56) ?_
     refine pu_ 3 57 z15_4 HT_.out ?_
     refine pu_ 4 58 z15_5 HT_.out ?_
     refine pu_ 5 59 z15_6 HT_.out ?_
     refine pu_ 6 60 z15_7 HT_.out ?_
     refine pu_ 7 61 z15_8 HT_.out ?_
     refine pu_ 8 62 z15_9 HT_.out ?_
     refine pu_ 9 63 z15_10 HT_.out ?_
     refine pu_ 10 64 z15_11 HT_.out ?_
     refine pu_ 11 65 z15_12 HT_.out ?_
     refine pu_ 12 66 z15_13 HT_.out ?_
     refine pu_ 13 67 z15_14 HT_.out ?_
     refine un_ 14 68 z15_15 HT_.out ?_
     refine un_ 15 69 z15_16 HT_.out ?_
     refine un_ 16 70 z15_17 HT_.out ?_
     refine un_ 17 71 z15_18 HT_.out ?_
     refine un_ 18 72 z15_19 HT_.out ?_
     refine un_ 19 73 z15_20 HT_.out ?_
     refine pu_ 20 74 z15_21 HT_.out ?_
     refine pu_ 21 75 z15_22 HT_.out ?_
     refine un_ 22 76 z15_23 HT_.out ?_
     refine un_ 23 77 z15_24 HT_.out ?_
     refine un_ 24 78 z15_25 HT_.out ?_
     refine un_ 25 79 z15_26 HT_.out ?_
     refine un_ 26 80 z15_27 HT_.out ?_
     refine un_ 27 81 z15_28 HT_.out ?_
     refine pu_ 28 82 z15_29 HT_.out ?_
     refine pu_ 29 83 z15_30 HT_.out ?_
     refine un_ 30 84 z15_37 HT_.out ?_
     refine un_ 31 85 z15_38 HT_.out ?_
     refine un_ 32 86 z15_39 HT_.out ?_
     refine un_ 33 87 z15_40 HT_.out ?_
     refine un_ 34 88 z15_41 HT_.out ?_
     refine un_ 35 89 z15_42 HT_.out ?_
     refine un_ 36 90 z15_43 HT_.out ?_
     refine un_ 37 91 z15_31 HT_.out ?_
     refine un_ 38 92 z15_32 HT_.out ?_
     refine un_ 39 93 z15_33 HT_.out ?_
     refine un_ 40 94 z15_34 HT_.out ?_
     refine pu_ 41 95 z15_35 HT_.out ?_
     refine pu_ 42 2 z15_36 HT_.out ?_
     refine done_ (done_of HT_.out (by kernel_rfl)) ?_
     try go_wp2
     go_ret
     exact ⟨nw_, ne_ HB.out⟩
    rw [if_pos c32] at H
    have c32b0 : ((t966.length : Int) == (wrap64 ((t959.length : Int) + (t962.length : Int)))) = true := beq_iff_eq.mpr c32
    have c32b1 : ((t966.length : Int) != (wrap64 ((t959.length : Int) + (t962.length : Int)))) = false := bne_eq_false_iff_eq.mpr c32
    clear c32
    by_cases c33 : 0 ≤ (t959.length : Int)
    rotate_left
    ·rw [if_neg c33] at H
     exact absurd H (by simp)
    rw [if_pos c33] at H
    have c33b0 := eq_true c33
    have c33b1 : decide (0 ≤ (t959.length : Int)) = true := decide_eq_true c33
    clear c33
    by_cases c34 : (t959.length : Int) ≤ (t966.length : Int)
    rotate_left
    ·rw [if_neg c34] at H
     exact absurd H (by simp)
    rw [if_pos c34] at H
    have c34b0 := eq_true c34
    have c34b1 : decide ((t959.length : Int) ≤ (t966.length : Int)) = true := decide_eq_true c34
    clear c34
    obtain ⟨y977, hy977⟩ : ∃ y_ : List Int, y_ = (t966.take ((t959.length : Int) : Int).toNat) := ⟨_, rfl⟩
    replace H : ((laws_wkInts.f kj5 y977 t959).bind fun t981 => (if t981 = true then ((laws_wkInts.f kj5 (t966.drop ((t959.length : Int) : Int).toNat) t962).bind fun t986 => (if t986 = true then ((impl_WalkCost.f kj5 t955 t956 t966).bind fun t987 => ((impl_WalkCost.f kj5 t955 t956 t959).bind fun t988 => ((impl_WalkCost.f kj5 t955 t956 t962).bind fun t989 => (some (t987 == (wrap64 (t988 + t989))))))) else (some false))) else (some false))) = some r := by first | (rw [hy977]; with_reducible exact H) | (have H2_ := (Option.bind_some _ _).symm.trans H; rw [hy977]; with_reducible exact H2_) | (have H2_ := (Option.bind_some _ _).symm.trans H; with_reducible exact H2_) | with_reducible exact H | (rw [hy977]; exact H) | exact H
    have Ny977 := Aside0.mk hy977
    clear hy977
    replace H := Option.bind_eq_some_iff.mp H
    obtain ⟨t981, A350, H⟩ := H
    try dsimp only at H
    have A35 := Aside0.mk A350
    clear A350
    by_cases c36 : t981 = true
    rotate_left
    ·replace c36 := Bool.eq_false_iff.mpr c36
     subst c36
     have H1 : (some false) = some r := by rw [if_neg (show ¬ (false = true) by decide)] at H; exact H
     clear H
     have H := H1
     clear H1
     obtain rfl := Option.some.inj H
     try go_wp2
     replace HO_4 := Aside0.mk (Kd.R_drew HO_4.out)
     replace HO_5 := Aside0.mk (Kd.R_drew HO_5.out)
     replace HO_6 := Aside0.mk (Kd.R_drew HO_6.out)
     replace HO_8 := Aside0.mk (Kd.R_drew HO_8.out)
     replace HO_966001 := Aside0.mk (Kd.R_drew HO_966001.out)
     replace BK965 := Aside0.mk (blk_drew BK965.out)
     replace HB := Aside0.mk (below_drew1 HB.out)
     obtain ⟨Ao58, co58, eo58⟩ := Kd.R_slice HO_6.out
     (first | subst eo58 | (injection eo58 with f1_ f2_ f3_; have f4_ := f1_.symm; have f5_ := f3_.symm; clear f1_ f2_ f3_; subst f4_; subst f5_))
     refine start_ (n := 43) (S := fun w' => w'.cell? ⟨gb965, 0, none⟩ = some (.int .i64 t955) ∧ w'.cell? ⟨gb965, 1, none⟩ = some (.slice Ao10 t956.length co10)) (ds := []) z15_0 (by kernel_rfl) rfl rfl ⟨ct_ BK965.out 0, ct_ BK965.out 1⟩ (fun hHeld => ?_); refine with_tabW laws_FnWalkJoin.tab8 laws_FnWalkJoin.bits8 (fun HT_ HW_ => ?_)
     generalize wc.drew = w57 at HO_4 HO_5 HO_6 HO_8 HO_966001 BK965 HB hHeld ⊢
     refine pu_ 1 55 z15_1 HT_.out ?_
     refine tk_ 0 54 z15_2 HT_.out HW_.out hHeld ?_
     refine one_ (i := 2) (N := some 56) z15_3 rfl rfl (one_of HT_.out (by kernel_rfl)) (by decide) (fun K hK => ?_)
     refine go_ Try.func43 #[.agg #[.int .i64 t955, .slice Ao10 t956.length co10], .slice Ao58 t966.length co58] ?_
     with_reducible refine (impl_WalkOk.calls kj5 t955 _ _ t956 _ _ t966 true _ ?side1 ?side2 ?side3 ?side4 A30.out).mono ?_
     (case side1 => exact nc_ (rR15 HO_966001.out).2.2)
     (case side2 => exact (rR15 HO_966001.out).2.1)
     (case side3 => exact nc_ (rR15 HO_6.out).2.2)
     (case side4 => exact (rR15 HO_6.out).2.1)
     rintro e w59 ⟨rfl, hb⟩
     refine ⟨_, rfl, ?_⟩
     replace HO_4 := kR_ HO_4 hb
     replace HO_5 := kR_ HO_5 hb
     replace HO_6 := kR_ HO_6 hb
     replace HO_8 := kR_ HO_8 hb
     replace HO_966001 := kR_ HO_966001 hb
     replace BK965 := kb_ BK965 hb
     replace HB := kB_ HB hb
     (try clear hb)
     (try clear hb2)
     (try clear hk)
     (try clear hi)
     have q60 : ((t959.length : Int) : Int) ≤ ((t966.length : Int) : Int) := of_decide_eq_true nx_
     obtain ⟨i060, hi060, _, hsz60, _⟩ := info_parts info3
     have hroom60 : t966.length ≤ co58 := (rR15 HO_6.out).2.1
     have hC60 : Kd.C (Kd.int .i64) _ Ao58 t966.length t966 := (rR15 HO_6.out).2.2
     have hcut60 := cut_to (P := Try.prog) 41 3 .i64 Try.underlying41 hi060 Ao58 t966.length co58 (t959.length : Int) (of_decide_eq_true nx_) q60 hroom60
     have hr60 := Kd.C_take (m := ((t959.length : Int) : Int).toNat) hC60 (by omega)
     have hy60 : y977.length = ((t959.length : Int) : Int).toNat := (by rw [Ny977.out, List.length_take]; omega)
     rw [← Ny977.out] at hr60
     rw [← hy60] at hcut60
     have HR980 := Aside0.mk hr60
     have HC980 := Aside0.mk (show y977.length ≤ co58 from by omega)
     clear hr60 hC60 hroom60 hi060 hsz60
     have KY60 := Aside0.mk hy60
     clear hy60
     have KL60 := Aside0.mk (show ((t959.length : Int) : Int).toNat ≤ t966.length from by omega)
     replace q60 := eq_true q60
     refine hK.out _ _ ⟨ct_ BK965.out 0, ct_ BK965.out 1⟩ (fun hHeld => ?_)
     clear hK K
     refine nm1_ (some 56) ?_
     refine pu_ 3 57 z15_4 HT_.out ?_
     refine pu_ 4 58 z15_5 HT_.out ?_
     refine pu_ 5 59 z15_6 HT_.out ?_
     refine pu_ 6 60 z15_7 HT_.out ?_
     refine pu_ 7 61 z15_8 HT_.out ?_
     refine pu_ 8 62 z15_9 HT_.out ?_
     refine pu_ 9 63 z15_10 HT_.out ?_
     refine pu_ 10 64 z15_11 HT_.out ?_
     refine pu_ 11 65 z15_12 HT_.out ?_
     refine pu_ 12 66 z15_13 HT_.out ?_
     refine pu_ 13 67 z15_14 HT_.out ?_
     refine pu_ 14 68 z15_15 HT_.out ?_
     refine pu_ 15 69 z15_16 HT_.out ?_
     refine pu_ 16 70 z15_17 HT_.out ?_
     refine pu_ 17 71 z15_18 HT_.out ?_
     refine pu_ 18 72 z15_19 HT_.out ?_
     refine one_ (i := 19) (N := some 73) z15_20 rfl rfl (one_of HT_.out (by kernel_rfl)) (by decide) (fun K hK => ?_)
     refine go_ Try.func30 #[.slice Ao58 y977.length co58, .slice Ao13 t959.length co13] ?_
     with_reducible refine (laws_wkInts.calls kj5 _ _ y977 _ _ t959 false _ ?side1 ?side2 ?side3 ?side4 A35.out).mono ?_
     (case side1 => repeat (first | exact (by repeat (first | (with_reducible exact HR980.out) | (with_reducible refine Kd.C_alloc ?_ _) | (with_reducible refine Kd.C_drewN ?_ _) | (with_reducible refine Kd.C_drew ?_) | exact HR980.out)) | (with_reducible refine Kd.C_alloc ?_ _) | (with_reducible refine Kd.C_drewN ?_ _) | (with_reducible refine Kd.C_drew ?_)))
     (case side2 => exact HC980.out)
     (case side3 => exact nc_ (rR15 HO_4.out).2.2)
     (case side4 => exact (rR15 HO_4.out).2.1)
     rintro e w' ⟨rfl, ⟨nd, rfl⟩⟩
     refine ⟨_, rfl, ?_⟩
     refine hK.out _ _ ⟨ct_ BK965.out 0, ct_ BK965.out 1⟩ (fun hHeld => ?_)
     clear hK K
     refine nm1_ (some 73) ?_
     refine pu_ 20 74 z15_21 HT_.out ?_
     refine pu_ 21 75 z15_22 HT_.out ?_
     refine un_ 22 76 z15_23 HT_.out ?_
     refine un_ 23 77 z15_24 HT_.out ?_
     refine un_ 24 78 z15_25 HT_.out ?_
     refine un_ 25 79 z15_26 HT_.out ?_
     refine un_ 26 80 z15_27 HT_.out ?_
     refine un_ 27 81 z15_28 HT_.out ?_
     refine pu_ 28 82 z15_29 HT_.out ?_
     refine pu_ 29 83 z15_30 HT_.out ?_
     refine un_ 30 84 z15_37 HT_.out ?_
     refine un_ 31 85 z15_38 HT_.out ?_
     refine un_ 32 86 z15_39 HT_.out ?_
     refine un_ 33 87 z15_40 HT_.out ?_
     refine un_ 34 88 z15_41 HT_.out ?_
     refine un_ 35 89 z15_42 HT_.out ?_
     refine un_ 36 90 z15_43 HT_.out ?_
     refine un_ 37 91 z15_31 HT_.out ?_
     refine un_ 38 92 z15_32 HT_.out ?_
     refine un_ 39 93 z15_33 HT_.out ?_
     refine un_ 40 94 z15_34 HT_.out ?_
     refine pu_ 41 95 z15_35 HT_.out ?_
     refine pu_ 42 2 z15_36 HT_.out ?_
     refine done_ (done_of HT_.out (by kernel_rfl)) ?_
     try go_wp2
     go_ret
     exact ⟨nw_, ne_ HB.out⟩
    subst c36
    rw [if_pos rfl] at H
    have c37b0 := eq_true (of_decide_eq_true nx_ : 0 ≤ (t959.length : Int))
    have c38b0 := eq_true (of_decide_eq_true nx_ : (t959.length : Int) ≤ (t966.length : Int))
    obtain ⟨y982, hy982⟩ : ∃ y_ : List Int, y_ = (t966.drop ((t959.length : Int) : Int).toNat) := ⟨_, rfl⟩
    replace H : ((laws_wkInts.f kj5 y982 t962).bind fun t986 => (if t986 = true then ((impl_WalkCost.f kj5 t955 t956 t966).bind fun t987 => ((impl_WalkCost.f kj5 t955 t956 t959).bind fun t988 => ((impl_WalkCost.f kj5 t955 t956 t962).bind fun t989 => (some (t987 == (wrap64 (t988 + t989))))))) else (some false))) = some r := by first | (rw [hy982]; with_reducible exact H) | (have H2_ := (Option.bind_some _ _).symm.trans H; rw [hy982]; with_reducible exact H2_) | (have H2_ := (Option.bind_some _ _).symm.trans H; with_reducible exact H2_) | with_reducible exact H | (rw [hy982]; exact H) | exact H
    have Ny982 := Aside0.mk hy982
    clear hy982
    replace H := Option.bind_eq_some_iff.mp H
    obtain ⟨t986, A390, H⟩ := H
    try dsimp only at H
    have A39 := Aside0.mk A390
    clear A390
    by_cases c40 : t986 = true
    rotate_left
    ·replace c40 := Bool.eq_false_iff.mpr c40
     subst c40
     have H1 : (some false) = some r := by rw [if_neg (show ¬ (false = true) by decide)] at H; exact H
     clear H
     have H := H1
     clear H1
     obtain rfl := Option.some.inj H
     try go_wp2
     replace HO_4 := Aside0.mk (Kd.R_drew HO_4.out)
     replace HO_5 := Aside0.mk (Kd.R_drew HO_5.out)
     replace HO_6 := Aside0.mk (Kd.R_drew HO_6.out)
     replace HO_8 := Aside0.mk (Kd.R_drew HO_8.out)
     replace HO_966001 := Aside0.mk (Kd.R_drew HO_966001.out)
     replace BK965 := Aside0.mk (blk_drew BK965.out)
     replace HB := Aside0.mk (below_drew1 HB.out)
     obtain ⟨Ao53, co53, eo53⟩ := Kd.R_slice HO_6.out
     (first | subst eo53 | (injection eo53 with f1_ f2_ f3_; have f4_ := f1_.symm; have f5_ := f3_.symm; clear f1_ f2_ f3_; subst f4_; subst f5_))
     refine start_ (n := 43) (S := fun w' => w'.cell? ⟨gb965, 0, none⟩ = some (.int .i64 t955) ∧ w'.cell? ⟨gb965, 1, none⟩ = some (.slice Ao10 t956.length co10)) (ds := []) z15_0 (by kernel_rfl) rfl rfl ⟨ct_ BK965.out 0, ct_ BK965.out 1⟩ (fun hHeld => ?_); refine with_tabW laws_FnWalkJoin.tab8 laws_FnWalkJoin.bits8 (fun HT_ HW_ => ?_)
     generalize wc.drew = w52 at HO_4 HO_5 HO_6 HO_8 HO_966001 BK965 HB hHeld ⊢
     refine pu_ 1 55 z15_1 HT_.out ?_
     refine tk_ 0 54 z15_2 HT_.out HW_.out hHeld ?_
     refine one_ (i := 2) (N := some 56) z15_3 rfl rfl (one_of HT_.out (by kernel_rfl)) (by decide) (fun K hK => ?_)
     refine go_ Try.func43 #[.agg #[.int .i64 t955, .slice Ao10 t956.length co10], .slice Ao53 t966.length co53] ?_
     with_reducible refine (impl_WalkOk.calls kj5 t955 _ _ t956 _ _ t966 true _ ?side1 ?side2 ?side3 ?side4 A30.out).mono ?_
     (case side1 => exact nc_ (rR15 HO_966001.out).2.2)
     (case side2 => exact (rR15 HO_966001.out).2.1)
     (case side3 => exact nc_ (rR15 HO_6.out).2.2)
     (case side4 => exact (rR15 HO_6.out).2.1)
     rintro e w54 ⟨rfl, hb⟩
     refine ⟨_, rfl, ?_⟩
     replace HO_4 := kR_ HO_4 hb
     replace HO_5 := kR_ HO_5 hb
     replace HO_6 := kR_ HO_6 hb
     replace HO_8 := kR_ HO_8 hb
     replace HO_966001 := kR_ HO_966001 hb
     replace BK965 := kb_ BK965 hb
     replace HB := kB_ HB hb
     (try clear hb)
     (try clear hb2)
     (try clear hk)
     (try clear hi)
     have q55 : ((t959.length : Int) : Int) ≤ ((t966.length : Int) : Int) := of_decide_eq_true nx_
     obtain ⟨i055, hi055, _, hsz55, _⟩ := info_parts info3
     have hroom55 : t966.length ≤ co53 := (rR15 HO_6.out).2.1
     have hC55 : Kd.C (Kd.int .i64) _ Ao53 t966.length t966 := (rR15 HO_6.out).2.2
     have hcut55 := cut_to (P := Try.prog) 41 3 .i64 Try.underlying41 hi055 Ao53 t966.length co53 (t959.length : Int) (of_decide_eq_true nx_) q55 hroom55
     have hr55 := Kd.C_take (m := ((t959.length : Int) : Int).toNat) hC55 (by omega)
     have hy55 : y977.length = ((t959.length : Int) : Int).toNat := (by rw [Ny977.out, List.length_take]; omega)
     rw [← Ny977.out] at hr55
     rw [← hy55] at hcut55
     have HR980 := Aside0.mk hr55
     have HC980 := Aside0.mk (show y977.length ≤ co53 from by omega)
     clear hr55 hC55 hroom55 hi055 hsz55
     have KY55 := Aside0.mk hy55
     clear hy55
     have KL55 := Aside0.mk (show ((t959.length : Int) : Int).toNat ≤ t966.length from by omega)
     replace q55 := eq_true q55
     refine hK.out _ _ ⟨ct_ BK965.out 0, ct_ BK965.out 1⟩ (fun hHeld => ?_)
     clear hK K
     refine nm1_ (some 56) ?_
     refine pu_ 3 57 z15_4 HT_.out ?_
     refine pu_ 4 58 z15_5 HT_.out ?_
     refine pu_ 5 59 z15_6 HT_.out ?_
     refine pu_ 6 60 z15_7 HT_.out ?_
     refine pu_ 7 61 z15_8 HT_.out ?_
     refine pu_ 8 62 z15_9 HT_.out ?_
     refine pu_ 9 63 z15_10 HT_.out ?_
     refine pu_ 10 64 z15_11 HT_.out ?_
     refine pu_ 11 65 z15_12 HT_.out ?_
     refine pu_ 12 66 z15_13 HT_.out ?_
     refine pu_ 13 67 z15_14 HT_.out ?_
     refine pu_ 14 68 z15_15 HT_.out ?_
     refine pu_ 15 69 z15_16 HT_.out ?_
     refine pu_ 16 70 z15_17 HT_.out ?_
     refine pu_ 17 71 z15_18 HT_.out ?_
     refine pu_ 18 72 z15_19 HT_.out ?_
     refine one_ (i := 19) (N := some 73) z15_20 rfl rfl (one_of HT_.out (by kernel_rfl)) (by decide) (fun K hK => ?_)
     refine go_ Try.func30 #[.slice Ao53 y977.length co53, .slice Ao13 t959.length co13] ?_
     with_reducible refine (laws_wkInts.calls kj5 _ _ y977 _ _ t959 true _ ?side1 ?side2 ?side3 ?side4 A35.out).mono ?_
     (case side1 => repeat (first | exact (by repeat (first | (with_reducible exact HR980.out) | (with_reducible refine Kd.C_alloc ?_ _) | (with_reducible refine Kd.C_drewN ?_ _) | (with_reducible refine Kd.C_drew ?_) | exact HR980.out)) | (with_reducible refine Kd.C_alloc ?_ _) | (with_reducible refine Kd.C_drewN ?_ _) | (with_reducible refine Kd.C_drew ?_)))
     (case side2 => exact HC980.out)
     (case side3 => exact nc_ (rR15 HO_4.out).2.2)
     (case side4 => exact (rR15 HO_4.out).2.1)
     rintro e w' ⟨rfl, ⟨nd, rfl⟩⟩
     refine ⟨_, rfl, ?_⟩
     have q56 : ((t959.length : Int) : Int) ≤ ((t966.length : Int) : Int) := of_decide_eq_true nx_
     obtain ⟨i056, hi056, _, hsz56, _⟩ := info_parts info3
     have hroom56 : t966.length ≤ co53 := (rR15 HO_6.out).2.1
     have hC56 : Kd.C (Kd.int .i64) _ Ao53 t966.length t966 := (rR15 HO_6.out).2.2
     have q056 : (0 : Int) ≤ ((t959.length : Int) : Int) := of_decide_eq_true nx_
     have hcut56 := cut_from (P := Try.prog) 41 3 .i64 Try.underlying41 hi056 1 hsz56 Ao53 t966.length co53 (t959.length : Int) q056 q56
     have hr56 := Kd.C_drop (m := ((t959.length : Int) : Int).toNat) (c := co53) hC56 (by omega) hroom56
     obtain ⟨A56, hA56⟩ : ∃ A1, A1 = (if co53 = ((t959.length : Int) : Int).toNat then Ao53 else (Ao53 : Option Addr).map (·.add (((t959.length : Int) : Int).toNat * 1))) := ⟨_, rfl⟩
     obtain ⟨c56, hc56⟩ : ∃ c1, c1 = co53 - ((t959.length : Int) : Int).toNat := ⟨_, rfl⟩
     have hy56 : y982.length = t966.length - ((t959.length : Int) : Int).toNat := (by rw [Ny982.out, List.length_drop] <;> omega)
     rw [show (t966).drop ((t959.length : Int) : Int).toNat = y982 from Ny982.out.symm] at hr56
     replace hr56 : Kd.C (Kd.int .i64) _ A56 y982.length y982 := (by rw [hA56]; exact hr56)
     rw [← hy56, ← hA56, ← hc56] at hcut56
     have HR985 := Aside0.mk hr56
     have HC985 := Aside0.mk (show y982.length ≤ c56 from by rw [hy56, hc56]; exact Nat.sub_le_sub_right hroom56 _)
     clear hr56 hC56 hroom56 hi056 hsz56
     have KC56 := Aside0.mk hc56
     clear hc56
     have KY56 := Aside0.mk hy56
     have KA56 := Aside0.mk hA56
     clear hy56 hA56
     have KL56 := Aside0.mk (show ((t959.length : Int) : Int).toNat ≤ t966.length from by omega)
     replace q56 := eq_true q56
     refine hK.out _ _ ⟨ct_ BK965.out 0, ct_ BK965.out 1⟩ (fun hHeld => ?_)
     clear hK K
     refine nm1_ (some 73) ?_
     refine pu_ 20 74 z15_21 HT_.out ?_
     refine pu_ 21 75 z15_22 HT_.out ?_
     refine pu_ 22 76 z15_23 HT_.out ?_
     refine pu_ 23 77 z15_24 HT_.out ?_
     refine pu_ 24 78 z15_25 HT_.out ?_
     refine pu_ 25 79 z15_26 HT_.out ?_
     refine pu_ 26 80 z15_27 HT_.out ?_
     refine one_ (i := 27) (N := some 81) z15_28 rfl rfl (one_of HT_.out (by kernel_rfl)) (by decide) (fun K hK => ?_)
     refine goes_ Try.func30 (by kernel_rfl) rfl #[.slice A56 y982.length c56, .slice Ao14 t962.length co14] (by rfl) rfl rfl (by first | exact na_ | ((try simp only [List.map_toArray, List.map_cons, List.map_nil]); rw [KA56.out, KY56.out, KC56.out]; (try simp only [Nat.mul_one]); rfl)) ?_
     with_reducible refine (laws_wkInts.calls kj5 _ _ y982 _ _ t962 false _ ?side1 ?side2 ?side3 ?side4 A39.out).mono ?_
     (case side1 => repeat (first | exact (by repeat (first | (with_reducible exact HR985.out) | (with_reducible refine Kd.C_alloc ?_ _) | (with_reducible refine Kd.C_drewN ?_ _) | (with_reducible refine Kd.C_drew ?_) | exact HR985.out)) | (with_reducible refine Kd.C_alloc ?_ _) | (with_reducible refine Kd.C_drewN ?_ _) | (with_reducible refine Kd.C_drew ?_)))
     (case side2 => exact HC985.out)
     (case side3 => exact nc_ (rR15 HO_5.out).2.2)
     (case side4 => exact (rR15 HO_5.out).2.1)
     rintro e w' ⟨rfl, ⟨nd, rfl⟩⟩
     refine ⟨_, rfl, ?_⟩
     refine hK.out _ _ ⟨ct_ BK965.out 0, ct_ BK965.out 1⟩ (fun hHeld => ?_)
     clear hK K
     refine nm1_ (some 81) ?_
     refine pu_ 28 82 z15_29 HT_.out ?_
     refine pu_ 29 83 z15_30 HT_.out ?_
     refine un_ 30 84 z15_37 HT_.out ?_
     refine un_ 31 85 z15_38 HT_.out ?_
     refine un_ 32 86 z15_39 HT_.out ?_
     refine un_ 33 87 z15_40 HT_.out ?_
     refine un_ 34 88 z15_41 HT_.out ?_
     refine un_ 35 89 z15_42 HT_.out ?_
     refine un_ 36 90 z15_43 HT_.out ?_
     refine un_ 37 91 z15_31 HT_.out ?_
     refine un_ 38 92 z15_32 HT_.out ?_
     refine un_ 39 93 z15_33 HT_.out ?_
     refine un_ 40 94 z15_34 HT_.out ?_
     refine pu_ 41 95 z15_35 HT_.out ?_
     refine pu_ 42 2 z15_36 HT_.out ?_
     refine done_ (done_of HT_.out (by kernel_rfl)) ?_
     try go_wp2
     all_goals go_ret
     all_goals exact ⟨nw_, ne_ HB.out⟩
    subst c40
    rw [if_pos rfl] at H
    replace H := Option.bind_eq_some_iff.mp H
    obtain ⟨t987, A410, H⟩ := H
    try dsimp only at H
    have A41 := Aside0.mk A410
    clear A410
    replace H := Option.bind_eq_some_iff.mp H
    obtain ⟨t988, A420, H⟩ := H
    replace H : ((impl_WalkCost.f kj5 t955 t956 t962).bind fun t989 => (some (t987 == (wrap64 (t988 + t989))))) = some r := H
    have A42 := Aside0.mk A420
    clear A420
    replace H := Option.bind_eq_some_iff.mp H
    obtain ⟨t989, A430, H⟩ := H
    replace H : (some (t987 == (wrap64 (t988 + t989)))) = some r := H
    have A43 := Aside0.mk A430
    clear A430
    obtain rfl := Option.some.inj H
    try go_wp2
    replace HO_4 := Aside0.mk (Kd.R_drew HO_4.out)
    replace HO_5 := Aside0.mk (Kd.R_drew HO_5.out)
    replace HO_6 := Aside0.mk (Kd.R_drew HO_6.out)
    replace HO_8 := Aside0.mk (Kd.R_drew HO_8.out)
    replace HO_966001 := Aside0.mk (Kd.R_drew HO_966001.out)
    replace BK965 := Aside0.mk (blk_drew BK965.out)
    replace HB := Aside0.mk (below_drew1 HB.out)
    obtain ⟨Ao45, co45, eo45⟩ := Kd.R_slice HO_6.out
    (first | subst eo45 | (injection eo45 with f1_ f2_ f3_; have f4_ := f1_.symm; have f5_ := f3_.symm; clear f1_ f2_ f3_; subst f4_; subst f5_))
    refine start_ (n := 43) (S := fun w' => w'.cell? ⟨gb965, 0, none⟩ = some (.int .i64 t955) ∧ w'.cell? ⟨gb965, 1, none⟩ = some (.slice Ao10 t956.length co10)) (ds := []) z15_0 (by kernel_rfl) rfl rfl ⟨ct_ BK965.out 0, ct_ BK965.out 1⟩ (fun hHeld => ?_); refine with_tabW laws_FnWalkJoin.tab8 laws_FnWalkJoin.bits8 (fun HT_ HW_ => ?_)
    generalize wc.drew = w44 at HO_4 HO_5 HO_6 HO_8 HO_966001 BK965 HB hHeld ⊢
    refine pu_ 1 55 z15_1 HT_.out ?_
    refine tk_ 0 54 z15_2 HT_.out HW_.out hHeld ?_
    refine one_ (i := 2) (N := some 56) z15_3 rfl rfl (one_of HT_.out (by kernel_rfl)) (by decide) (fun K hK => ?_)
    refine go_ Try.func43 #[.agg #[.int .i64 t955, .slice Ao10 t956.length co10], .slice Ao45 t966.length co45] ?_
    with_reducible refine (impl_WalkOk.calls kj5 t955 _ _ t956 _ _ t966 true _ ?side1 ?side2 ?side3 ?side4 A30.out).mono ?_
    (case side1 => exact nc_ (rR15 HO_966001.out).2.2)
    (case side2 => exact (rR15 HO_966001.out).2.1)
    (case side3 => exact nc_ (rR15 HO_6.out).2.2)
    (case side4 => exact (rR15 HO_6.out).2.1)
    rintro e w46 ⟨rfl, hb⟩
    refine ⟨_, rfl, ?_⟩
    replace HO_4 := kR_ HO_4 hb
    replace HO_5 := kR_ HO_5 hb
    replace HO_6 := kR_ HO_6 hb
    replace HO_8 := kR_ HO_8 hb
    replace HO_966001 := kR_ HO_966001 hb
    replace BK965 := kb_ BK965 hb
    replace HB := kB_ HB hb
    (try clear hb)
    (try clear hb2)
    (try clear hk)
    (try clear hi)
    have q47 : ((t959.length : Int) : Int) ≤ ((t966.length : Int) : Int) := of_decide_eq_true nx_
    obtain ⟨i047, hi047, _, hsz47, _⟩ := info_parts info3
    have hroom47 : t966.length ≤ co45 := (rR15 HO_6.out).2.1
    have hC47 : Kd.C (Kd.int .i64) _ Ao45 t966.length t966 := (rR15 HO_6.out).2.2
    have hcut47 := cut_to (P := Try.prog) 41 3 .i64 Try.underlying41 hi047 Ao45 t966.length co45 (t959.length : Int) (of_decide_eq_true nx_) q47 hroom47
    have hr47 := Kd.C_take (m := ((t959.length : Int) : Int).toNat) hC47 (by omega)
    have hy47 : y977.length = ((t959.length : Int) : Int).toNat := (by rw [Ny977.out, List.length_take]; omega)
    rw [← Ny977.out] at hr47
    rw [← hy47] at hcut47
    have HR980 := Aside0.mk hr47
    have HC980 := Aside0.mk (show y977.length ≤ co45 from by omega)
    clear hr47 hC47 hroom47 hi047 hsz47
    have KY47 := Aside0.mk hy47
    clear hy47
    have KL47 := Aside0.mk (show ((t959.length : Int) : Int).toNat ≤ t966.length from by omega)
    replace q47 := eq_true q47
    refine hK.out _ _ ⟨ct_ BK965.out 0, ct_ BK965.out 1⟩ (fun hHeld => ?_)
    clear hK K
    refine nm1_ (some 56) ?_
    refine pu_ 3 57 z15_4 HT_.out ?_
    refine pu_ 4 58 z15_5 HT_.out ?_
    refine pu_ 5 59 z15_6 HT_.out ?_
    refine pu_ 6 60 z15_7 HT_.out ?_
    refine pu_ 7 61 z15_8 HT_.out ?_
    refine pu_ 8 62 z15_9 HT_.out ?_
    refine pu_ 9 63 z15_10 HT_.out ?_
    refine pu_ 10 64 z15_11 HT_.out ?_
    refine pu_ 11 65 z15_12 HT_.out ?_
    refine pu_ 12 66 z15_13 HT_.out ?_
    refine pu_ 13 67 z15_14 HT_.out ?_
    refine pu_ 14 68 z15_15 HT_.out ?_
    refine pu_ 15 69 z15_16 HT_.out ?_
    refine pu_ 16 70 z15_17 HT_.out ?_
    refine pu_ 17 71 z15_18 HT_.out ?_
    refine pu_ 18 72 z15_19 HT_.out ?_
    refine one_ (i := 19) (N := some 73) z15_20 rfl rfl (one_of HT_.out (by kernel_rfl)) (by decide) (fun K hK => ?_)
    refine go_ Try.func30 #[.slice Ao45 y977.length co45, .slice Ao13 t959.length co13] ?_
    with_reducible refine (laws_wkInts.calls kj5 _ _ y977 _ _ t959 true _ ?side1 ?side2 ?side3 ?side4 A35.out).mono ?_
    (case side1 => repeat (first | exact (by repeat (first | (with_reducible exact HR980.out) | (with_reducible refine Kd.C_alloc ?_ _) | (with_reducible refine Kd.C_drewN ?_ _) | (with_reducible refine Kd.C_drew ?_) | exact HR980.out)) | (with_reducible refine Kd.C_alloc ?_ _) | (with_reducible refine Kd.C_drewN ?_ _) | (with_reducible refine Kd.C_drew ?_)))
    (case side2 => exact HC980.out)
    (case side3 => exact nc_ (rR15 HO_4.out).2.2)
    (case side4 => exact (rR15 HO_4.out).2.1)
    rintro e w' ⟨rfl, ⟨nd, rfl⟩⟩
    refine ⟨_, rfl, ?_⟩
    have q48 : ((t959.length : Int) : Int) ≤ ((t966.length : Int) : Int) := of_decide_eq_true nx_
    obtain ⟨i048, hi048, _, hsz48, _⟩ := info_parts info3
    have hroom48 : t966.length ≤ co45 := (rR15 HO_6.out).2.1
    have hC48 : Kd.C (Kd.int .i64) _ Ao45 t966.length t966 := (rR15 HO_6.out).2.2
    have q048 : (0 : Int) ≤ ((t959.length : Int) : Int) := of_decide_eq_true nx_
    have hcut48 := cut_from (P := Try.prog) 41 3 .i64 Try.underlying41 hi048 1 hsz48 Ao45 t966.length co45 (t959.length : Int) q048 q48
    have hr48 := Kd.C_drop (m := ((t959.length : Int) : Int).toNat) (c := co45) hC48 (by omega) hroom48
    obtain ⟨A48, hA48⟩ : ∃ A1, A1 = (if co45 = ((t959.length : Int) : Int).toNat then Ao45 else (Ao45 : Option Addr).map (·.add (((t959.length : Int) : Int).toNat * 1))) := ⟨_, rfl⟩
    obtain ⟨c48, hc48⟩ : ∃ c1, c1 = co45 - ((t959.length : Int) : Int).toNat := ⟨_, rfl⟩
    have hy48 : y982.length = t966.length - ((t959.length : Int) : Int).toNat := (by rw [Ny982.out, List.length_drop] <;> omega)
    rw [show (t966).drop ((t959.length : Int) : Int).toNat = y982 from Ny982.out.symm] at hr48
    replace hr48 : Kd.C (Kd.int .i64) _ A48 y982.length y982 := (by rw [hA48]; exact hr48)
    rw [← hy48, ← hA48, ← hc48] at hcut48
    have HR985 := Aside0.mk hr48
    have HC985 := Aside0.mk (show y982.length ≤ c48 from by rw [hy48, hc48]; exact Nat.sub_le_sub_right hroom48 _)
    clear hr48 hC48 hroom48 hi048 hsz48
    have KC48 := Aside0.mk hc48
    clear hc48
    have KY48 := Aside0.mk hy48
    have KA48 := Aside0.mk hA48
    clear hy48 hA48
    have KL48 := Aside0.mk (show ((t959.length : Int) : Int).toNat ≤ t966.length from by omega)
    replace q48 := eq_true q48
    refine hK.out _ _ ⟨ct_ BK965.out 0, ct_ BK965.out 1⟩ (fun hHeld => ?_)
    clear hK K
    refine nm1_ (some 73) ?_
    refine pu_ 20 74 z15_21 HT_.out ?_
    refine pu_ 21 75 z15_22 HT_.out ?_
    refine pu_ 22 76 z15_23 HT_.out ?_
    refine pu_ 23 77 z15_24 HT_.out ?_
    refine pu_ 24 78 z15_25 HT_.out ?_
    refine pu_ 25 79 z15_26 HT_.out ?_
    refine pu_ 26 80 z15_27 HT_.out ?_
    refine one_ (i := 27) (N := some 81) z15_28 rfl rfl (one_of HT_.out (by kernel_rfl)) (by decide) (fun K hK => ?_)
    refine goes_ Try.func30 (by kernel_rfl) rfl #[.slice A48 y982.length c48, .slice Ao14 t962.length co14] (by rfl) rfl rfl (by first | exact na_ | ((try simp only [List.map_toArray, List.map_cons, List.map_nil]); rw [KA48.out, KY48.out, KC48.out]; (try simp only [Nat.mul_one]); rfl)) ?_
    with_reducible refine (laws_wkInts.calls kj5 _ _ y982 _ _ t962 true _ ?side1 ?side2 ?side3 ?side4 A39.out).mono ?_
    (case side1 => repeat (first | exact (by repeat (first | (with_reducible exact HR985.out) | (with_reducible refine Kd.C_alloc ?_ _) | (with_reducible refine Kd.C_drewN ?_ _) | (with_reducible refine Kd.C_drew ?_) | exact HR985.out)) | (with_reducible refine Kd.C_alloc ?_ _) | (with_reducible refine Kd.C_drewN ?_ _) | (with_reducible refine Kd.C_drew ?_)))
    (case side2 => exact HC985.out)
    (case side3 => exact nc_ (rR15 HO_5.out).2.2)
    (case side4 => exact (rR15 HO_5.out).2.1)
    rintro e w' ⟨rfl, ⟨nd, rfl⟩⟩
    refine ⟨_, rfl, ?_⟩
    refine hK.out _ _ ⟨ct_ BK965.out 0, ct_ BK965.out 1⟩ (fun hHeld => ?_)
    clear hK K
    refine nm1_ (some 81) ?_
    refine pu_ 28 82 z15_29 HT_.out ?_
    refine pu_ 29 83 z15_30 HT_.out ?_
    refine pu_ 31 85 (bm_ 43 3221225471) HT_.out ?_
    refine pu_ 34 88 (bm_ 43 20401094655) HT_.out ?_
    refine pu_ 37 91 (bm_ 43 157840048127) HT_.out ?_
    refine tk_ 30 84 (bm_ 43 158913789951) HT_.out HW_.out hHeld ?_
    refine tk_ 33 87 (bm_ 43 167503724543) HT_.out HW_.out hHeld ?_
    refine tk_ 36 90 (bm_ 43 236223201279) HT_.out HW_.out hHeld ?_
    refine one_ (i := 32) (N := some 86) (bm_ 43 240518168575) rfl rfl (one_of HT_.out (by kernel_rfl)) (by decide) (fun K hK => ?_)
    refine go_ Try.func47 #[.agg #[.int .i64 t955, .slice Ao10 t956.length co10], .slice Ao45 t966.length co45] ?_
    with_reducible refine (impl_WalkCost.calls kj5 t955 _ _ t956 _ _ t966 t987 _ ?side1 ?side2 ?side3 ?side4 A41.out).mono ?_
    (case side1 => exact nc_ (rR15 HO_966001.out).2.2)
    (case side2 => exact (rR15 HO_966001.out).2.1)
    (case side3 => exact nc_ (rR15 HO_6.out).2.2)
    (case side4 => exact (rR15 HO_6.out).2.1)
    rintro e w49 ⟨rfl, hb⟩
    refine ⟨_, rfl, ?_⟩
    replace HO_4 := kR_ HO_4 hb
    replace HO_5 := kR_ HO_5 hb
    replace HO_6 := kR_ HO_6 hb
    replace HO_8 := kR_ HO_8 hb
    replace HO_966001 := kR_ HO_966001 hb
    replace BK965 := kb_ BK965 hb
    replace HR980 := Aside0.mk (Kd.C_below (by repeat (first | (with_reducible exact HR980.out) | (with_reducible refine Kd.C_alloc ?_ _) | (with_reducible refine Kd.C_drewN ?_ _) | (with_reducible refine Kd.C_drew ?_) | exact HR980.out)) hb)
    replace HR985 := Aside0.mk (Kd.C_below (by repeat (first | (with_reducible exact HR985.out) | (with_reducible refine Kd.C_alloc ?_ _) | (with_reducible refine Kd.C_drewN ?_ _) | (with_reducible refine Kd.C_drew ?_) | exact HR985.out)) hb)
    replace HB := kB_ HB hb
    (try clear hb)
    (try clear hb2)
    (try clear hk)
    (try clear hi)
    refine hK.out _ _ ⟨ct_ BK965.out 0, ct_ BK965.out 1⟩ (fun hHeld => ?_)
    clear hK K
    refine nm1_ (some 86) ?_
    refine one_ (i := 35) (N := some 89) z15_31 rfl rfl (one_of HT_.out (by kernel_rfl)) (by decide) (fun K hK => ?_)
    refine go_ Try.func47 #[.agg #[.int .i64 t955, .slice Ao10 t956.length co10], .slice Ao13 t959.length co13] ?_
    with_reducible refine (impl_WalkCost.calls kj5 t955 _ _ t956 _ _ t959 t988 _ ?side1 ?side2 ?side3 ?side4 A42.out).mono ?_
    (case side1 => exact nc_ (rR15 HO_966001.out).2.2)
    (case side2 => exact (rR15 HO_966001.out).2.1)
    (case side3 => exact nc_ (rR15 HO_4.out).2.2)
    (case side4 => exact (rR15 HO_4.out).2.1)
    rintro e w50 ⟨rfl, hb⟩
    refine ⟨_, rfl, ?_⟩
    replace HO_4 := kR_ HO_4 hb
    replace HO_5 := kR_ HO_5 hb
    replace HO_6 := kR_ HO_6 hb
    replace HO_8 := kR_ HO_8 hb
    replace HO_966001 := kR_ HO_966001 hb
    replace BK965 := kb_ BK965 hb
    replace HR980 := Aside0.mk (Kd.C_below (by repeat (first | (with_reducible exact HR980.out) | (with_reducible refine Kd.C_alloc ?_ _) | (with_reducible refine Kd.C_drewN ?_ _) | (with_reducible refine Kd.C_drew ?_) | exact HR980.out)) hb)
    replace HR985 := Aside0.mk (Kd.C_below (by repeat (first | (with_reducible exact HR985.out) | (with_reducible refine Kd.C_alloc ?_ _) | (with_reducible refine Kd.C_drewN ?_ _) | (with_reducible refine Kd.C_drew ?_) | exact HR985.out)) hb)
    replace HB := kB_ HB hb
    (try clear hb)
    (try clear hb2)
    (try clear hk)
    (try clear hi)
    refine hK.out _ _ ⟨ct_ BK965.out 0, ct_ BK965.out 1⟩ (fun hHeld => ?_)
    clear hK K
    refine nm1_ (some 89) ?_
    refine one_ (i := 38) (N := some 92) z15_32 rfl rfl (one_of HT_.out (by kernel_rfl)) (by decide) (fun K hK => ?_)
    refine go_ Try.func47 #[.agg #[.int .i64 t955, .slice Ao10 t956.length co10], .slice Ao14 t962.length co14] ?_
    with_reducible refine (impl_WalkCost.calls kj5 t955 _ _ t956 _ _ t962 t989 _ ?side1 ?side2 ?side3 ?side4 A43.out).mono ?_
    (case side1 => exact nc_ (rR15 HO_966001.out).2.2)
    (case side2 => exact (rR15 HO_966001.out).2.1)
    (case side3 => exact nc_ (rR15 HO_5.out).2.2)
    (case side4 => exact (rR15 HO_5.out).2.1)
    rintro e w51 ⟨rfl, hb⟩
    refine ⟨_, rfl, ?_⟩
    replace HO_4 := kR_ HO_4 hb
    replace HO_5 := kR_ HO_5 hb
    replace HO_6 := kR_ HO_6 hb
    replace HO_8 := kR_ HO_8 hb
    replace HO_966001 := kR_ HO_966001 hb
    replace BK965 := kb_ BK965 hb
    replace HR980 := Aside0.mk (Kd.C_below (by repeat (first | (with_reducible exact HR980.out) | (with_reducible refine Kd.C_alloc ?_ _) | (with_reducible refine Kd.C_drewN ?_ _) | (with_reducible refine Kd.C_drew ?_) | exact HR980.out)) hb)
    replace HR985 := Aside0.mk (Kd.C_below (by repeat (first | (with_reducible exact HR985.out) | (with_reducible refine Kd.C_alloc ?_ _) | (with_reducible refine Kd.C_drewN ?_ _) | (with_reducible refine Kd.C_drew ?_) | exact HR985.out)) hb)
    replace HB := kB_ HB hb
    (try clear hb)
    (try clear hb2)
    (try clear hk)
    (try clear hi)
    refine hK.out _ _ ⟨ct_ BK965.out 0, ct_ BK965.out 1⟩ (fun hHeld => ?_)
    clear hK K
    refine nm1_ (some 92) ?_
    refine pu_ 39 93 z15_33 HT_.out ?_
    refine pu_ 40 94 z15_34 HT_.out ?_
    refine pu_ 41 95 z15_35 HT_.out ?_
    refine pu_ 42 2 z15_36 HT_.out ?_
    refine done_ (done_of HT_.out (by kernel_rfl)) ?_
    try go_wp2
    all_goals go_ret
    all_goals exact ⟨nw_, ne_ HB.out⟩
/-- THE ONE PURE STATEMENT of laws_FnWalkJoin: yours. -/
def laws_FnWalkJoin.Pure : Prop := ∀ (l0 : List Int), l0.length ≤ maxLen → l0.length * 1 ≤ 140737488351232 → (∀ x ∈ l0, (Lit.int .u8 x).wf = true) → ∃ k, laws_FnWalkJoin.f k l0 = some true
theorem laws_FnWalkJoin.walk (P : laws_FnWalkJoin.Pure) (a0 : Option Addr) (len0 cap0 : Nat) (z0 : List Int) (w : World) (w0 : (a0 = none ∧ len0 = 0 ∧ cap0 = 0 ∧ z0 = []) ∨ ∃ x, a0 = some x ∧ len0 ≤ cap0 ∧ cap0 ≤ maxLen ∧ z0.length = cap0 ∧ (∀ i, i < z0.length → w.cell? (x.add i) = some (.int .u8 (z0.getD i 0))) ∧ ∀ n ∈ z0, (Lit.int .u8 n).wf = true) (y0 : len0 * 1 ≤ 140737488351232) :
    Calls Try.prog 15 #[.slice a0 len0 cap0] w fun e w' => e = .returned (.bool true) ∧ Below w.heap.size w w' := by
  obtain ⟨l0, rfl, hr0, hm0, hw0, hc0⟩ := ReadsInt.ofRowC w0
  obtain ⟨k, h⟩ := P l0 hm0 y0 hw0
  refine (laws_FnWalkJoin.calls k _ _ l0 true w (Kd.C_of_reads (d := (0 : Int)) (h1 := fun _ => rfl) hr0) hc0 h).mono ?_
  rintro e w' ⟨rfl, hd⟩
  exact ⟨rfl, hd⟩

end Go.Proofs.Ytpjmkghmjpbldaa.Print
