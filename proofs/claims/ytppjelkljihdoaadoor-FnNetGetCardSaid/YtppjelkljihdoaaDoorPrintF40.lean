-- Made by this session's own program (wip/patch_print.py, over the kit's print). Lean checks it.
import Derived.Test.YtppjelkljihdoaaDoorPrint0
import Derived.Test.YtppjelkljihdoaaDoorPrintF39
import Derived.Test.YtppjelkljihdoaaDoorPrintF60
namespace Go.Proofs.YtppjelkljihdoaaDoor.Print
open Go.RowKit Go.Proofs.YtppjelkljihdoaaDoorW.PrintWords Go.Proofs.YtppjelkljihdoaaDoorW.PrintLast Go.Proofs.YtppjelkljihdoaaDoorW.PrintMore Go.Proofs.YtppjelkljihdoaaDoorX
attribute [local go_sem] max2_int min2_int max_two min_two max_three min_three max_four min_four   -- for this text's walks alone
set_option linter.unusedVariables false
set_option linter.unusedSimpArgs false

theorem ng79_40 {B : Nat} {w W W' : World} (h : Below B w W) (e : Below B w W → Below B w W' := by intro h_; repeat (first | (with_reducible first | exact h_ | apply below_alloc | apply pw_below_drewN | apply below_drew1 | refine below_set ?_ (IsS79.ge (Aside0.out (by with_reducible assumption))) | refine below_set ?_ (Aside0.out (by with_reducible assumption))) | exact h_)) : Below B w W' := e h
theorem ni79_40 {p q : Prop} (h : p) (e : p → q := by intro h_; repeat (first | (with_reducible first | exact h_ | apply IsS79.alloc | apply IsS79.drewN | apply IsS79.drew | apply IsS79.set_1 | refine IsS79.far ?_ (Aside0.out (by with_reducible assumption)) _) | exact h_)) : q := e h
/-! ### spec_l30Bent: function 40 -/
def spec_l30Bent.f (k : Nat) (s0_0 : List Int) (s0_1 : Int) (a1 : ByteArray) : Option (ByteArray × Int) := (spec_l30Rd_pick.f k s0_0 s0_1 (wrap64 ((a1.size : Int) + 1))).bind fun bt287 => ((spec_l30Rd_pick.f k s0_0 bt287.2 5).bind fun bt289 => (if bt289.1 = 0 then (if bt287.1 < (a1.size : Int) then (if 0 ≤ bt287.1 then (if bt287.1 ≤ (a1.size : Int) then ((spec_l30Rd_of.f k s0_0 bt289.2 (([(⟨#[48]⟩ : ByteArray), (⟨#[49]⟩ : ByteArray), (⟨#[32]⟩ : ByteArray), (⟨#[45]⟩ : ByteArray), (⟨#[10]⟩ : ByteArray), (⟨#[120]⟩ : ByteArray)] : List ByteArray))).bind fun bt294 => (if (a1.extract 0 (bt287.1 : Int).toNat).size + bt294.1.size ≤ 9223372036854775807 then (if 0 ≤ (wrap64 (bt287.1 + 1)) then (if (wrap64 (bt287.1 + 1)) ≤ (a1.size : Int) then (if ((a1.extract 0 (bt287.1 : Int).toNat) ++ bt294.1).size + (a1.extract ((wrap64 (bt287.1 + 1)) : Int).toNat a1.size).size ≤ 9223372036854775807 then (some (((a1.extract 0 (bt287.1 : Int).toNat) ++ bt294.1) ++ (a1.extract ((wrap64 (bt287.1 + 1)) : Int).toNat a1.size), bt294.2)) else (none)) else (none)) else (none)) else (none))) else (none)) else (none)) else (some (a1, bt289.2))) else (if bt289.1 = 1 then (if 0 ≤ bt287.1 then (if bt287.1 ≤ (a1.size : Int) then (some (a1.extract 0 (bt287.1 : Int).toNat, bt289.2)) else (none)) else (none)) else (if bt289.1 = 2 then ((spec_l30Rd_of.f k s0_0 bt289.2 (([(⟨#[48]⟩ : ByteArray), (⟨#[32]⟩ : ByteArray), (⟨#[10]⟩ : ByteArray), (⟨#[49]⟩ : ByteArray)] : List ByteArray))).bind fun bt299 => (if a1.size + bt299.1.size ≤ 9223372036854775807 then (some (a1 ++ bt299.1, bt299.2)) else (none))) else (some (a1, bt289.2))))))
theorem spec_l30Bent.mono : ∀ a0 a1 a2 k, LeO (spec_l30Bent.f k a0 a1 a2) (spec_l30Bent.f (k + 1) a0 a1 a2) := by
  intro a0 a1 a2 k
  unfold spec_l30Bent.f
  repeat' first | (with_reducible first | exact spec_l30Rd_of.mono _ _ _ _ | exact spec_l30Rd_pick.mono _ _ _ _ | exact LeO.refl _ | exact LeO.none _ | refine LeO.ite ?_ ?_ | refine LeO.bind ?_ (fun _ => ?_)) | exact spec_l30Rd_of.mono _ _ _ _ | exact spec_l30Rd_pick.mono _ _ _ _ | exact LeO.none _ | refine LeO.ite ?_ ?_ | refine LeO.bind ?_ (fun _ => ?_)
def spec_l30Bent.T5 : Bool × List (List Nat × List Nat) := (true, [([], []), ([], []), ([0, 1], [0, 1]), ([], []), ([], []), ([3, 4], [3, 4]), ([2, 5], [2, 5]), ([], []), ([], []), ([8], [8]), ([7, 9], [7, 9]), ([6, 10], [6, 10]), ([11, 5, 0, 1, 2, 3, 4, 5, 6, 7, 8, 9, 10, 11], [11])])
def spec_l30Bent.B5 : List Nat := [0, 0, 3, 0, 0, 24, 63, 0, 0, 256, 896, 2047, 4095]
theorem spec_l30Bent.tab5 : rtab .any (opsOf Tryd.f40 5) = spec_l30Bent.T5 := by kernel_rfl
theorem spec_l30Bent.bits5 : waitsOk spec_l30Bent.T5.2 spec_l30Bent.B5 = true := by kernel_rfl
set_option maxHeartbeats 200000000 in
set_option maxRecDepth 100000 in
theorem spec_l30Bent.calls (k : Nat) (g : Nat) (s0_0 : List Int) (s0_1 : Int) (a1 : ByteArray) (r1 : ByteArray) (r2 : Int) (w0 w : World) (hI : IsS79 w0 w g s0_0 s0_1) (hB : Below w0.heap.size w0 w) (h : spec_l30Bent.f k s0_0 s0_1 a1 = some (r1, r2)) :
    Calls Tryd.prog 40 #[.pointer (some ⟨g, 0, none⟩), .string a1] w fun e w' => e = .returned (.string r1) ∧ IsS79 w0 w' g s0_0 r2 ∧ Below w0.heap.size w0 w' ∧ KeepBut w w' g none := by
  have HI0 := Aside0.mk hI
  have HK := Aside0.mk (KeepBut.refl w g none)
  have HL := Aside0.mk hB.size
  clear hI
  have HW0 := Aside0.mk hB.size
  have HB := Aside0.mk hB
  clear hB
  have H : ((spec_l30Rd_pick.f k s0_0 s0_1 (wrap64 ((a1.size : Int) + 1))).bind fun bt287 => ((spec_l30Rd_pick.f k s0_0 bt287.2 5).bind fun bt289 => (if bt289.1 = 0 then (if bt287.1 < (a1.size : Int) then (if 0 ≤ bt287.1 then (if bt287.1 ≤ (a1.size : Int) then ((spec_l30Rd_of.f k s0_0 bt289.2 (([(⟨#[48]⟩ : ByteArray), (⟨#[49]⟩ : ByteArray), (⟨#[32]⟩ : ByteArray), (⟨#[45]⟩ : ByteArray), (⟨#[10]⟩ : ByteArray), (⟨#[120]⟩ : ByteArray)] : List ByteArray))).bind fun bt294 => (if (a1.extract 0 (bt287.1 : Int).toNat).size + bt294.1.size ≤ 9223372036854775807 then (if 0 ≤ (wrap64 (bt287.1 + 1)) then (if (wrap64 (bt287.1 + 1)) ≤ (a1.size : Int) then (if ((a1.extract 0 (bt287.1 : Int).toNat) ++ bt294.1).size + (a1.extract ((wrap64 (bt287.1 + 1)) : Int).toNat a1.size).size ≤ 9223372036854775807 then (some (((a1.extract 0 (bt287.1 : Int).toNat) ++ bt294.1) ++ (a1.extract ((wrap64 (bt287.1 + 1)) : Int).toNat a1.size), bt294.2)) else (none)) else (none)) else (none)) else (none))) else (none)) else (none)) else (some (a1, bt289.2))) else (if bt289.1 = 1 then (if 0 ≤ bt287.1 then (if bt287.1 ≤ (a1.size : Int) then (some (a1.extract 0 (bt287.1 : Int).toNat, bt289.2)) else (none)) else (none)) else (if bt289.1 = 2 then ((spec_l30Rd_of.f k s0_0 bt289.2 (([(⟨#[48]⟩ : ByteArray), (⟨#[32]⟩ : ByteArray), (⟨#[10]⟩ : ByteArray), (⟨#[49]⟩ : ByteArray)] : List ByteArray))).bind fun bt299 => (if a1.size + bt299.1.size ≤ 9223372036854775807 then (some (a1 ++ bt299.1, bt299.2)) else (none))) else (some (a1, bt289.2))))))) = some (r1, r2) := h
  clear h
  replace H := Option.bind_eq_some_iff.mp H
  obtain ⟨⟨t287, t288⟩, A30, H⟩ := H
  try dsimp only at H
  have A3 := Aside0.mk A30
  clear A30
  replace H := Option.bind_eq_some_iff.mp H
  obtain ⟨⟨t289, t290⟩, A40, H⟩ := H
  try dsimp only at H
  have A4 := Aside0.mk A40
  clear A40
  by_cases c5 : t289 = 0
  rotate_left
  ·rw [if_neg c5] at H
   have c5b0 : (t289 == 0) = false := beq_eq_false_iff_ne.mpr c5
   have c5b1 : (t289 != 0) = true := bne_iff_ne.mpr c5
   by_cases c24 : t289 = 1
   ·rw [if_pos c24] at H
    have c24b0 : (t289 == 1) = true := beq_iff_eq.mpr c24
    have c24b1 : (t289 != 1) = false := bne_eq_false_iff_eq.mpr c24
    clear c24
    by_cases c25 : 0 ≤ t287
    rotate_left
    ·rw [if_neg c25] at H
     exact absurd H (by simp)
    rw [if_pos c25] at H
    have c25b0 := eq_true c25
    have c25b1 : decide (0 ≤ t287) = true := decide_eq_true c25
    clear c25
    by_cases c26 : t287 ≤ (a1.size : Int)
    rotate_left
    ·rw [if_neg c26] at H
     exact absurd H (by simp)
    rw [if_pos c26] at H
    have c26b0 := eq_true c26
    have c26b1 : decide (t287 ≤ (a1.size : Int)) = true := decide_eq_true c26
    clear c26
    simp only [Option.some.injEq, Prod.mk.injEq] at H
    obtain ⟨rfl, rfl⟩ := H
    go_enter Tryd.func40, Tryd.ntmps40
    go_wp2_with (first | ((with_reducible refine gate_callee (f := 39) rfl ?_); refine gl_ (some 10) Tryd.func39 #[.pointer (some ⟨g, 0, none⟩), .int .i64 (wrap64 ((a1.size : Int) + 1))] ?_; (with_reducible refine (spec_l30Rd_pick.calls k g s0_0 s0_1 (wrap64 ((a1.size : Int) + 1)) t287 t288 w0 _ ?side1 ?side2 A3.out).mono ?_); (case side1 => exact (ni79_40 HI0.out)); (case side2 => exact (ng79_40 HB.out)); rintro e w27 ⟨rfl, hi, hb, hk⟩; refine ⟨_, rfl, ?_⟩; replace HK := Aside0.mk (KeepBut.trans (nk_ HK.out) hk (.inl rfl)); replace HB := Aside0.mk (hb); replace HI0 := Aside0.mk (hi); (try clear hb); (try clear hb2); (try clear hk); (try clear hi)) | ((with_reducible refine gate_callee (f := 39) rfl ?_); refine gl_ (some 12) Tryd.func39 #[.pointer (some ⟨g, 0, none⟩), .int .i64 5] ?_; (with_reducible refine (spec_l30Rd_pick.calls k g s0_0 t288 5 t289 t290 w0 _ ?side1 ?side2 A4.out).mono ?_); (case side1 => exact (ni79_40 HI0.out)); (case side2 => exact (ng79_40 HB.out)); rintro e w28 ⟨rfl, hi, hb, hk⟩; refine ⟨_, rfl, ?_⟩; replace HK := Aside0.mk (KeepBut.trans (nk_ HK.out) hk (.inl rfl)); replace HB := Aside0.mk (hb); replace HI0 := Aside0.mk (hi); (try clear hb); (try clear hb2); (try clear hk); (try clear hi)))
    go_ret
    exact ⟨nw_, ni79_40 HI0.out, by repeat (first | (with_reducible first | exact HB.out | apply below_alloc | apply pw_below_drewN | apply below_drew1 | refine below_set ?_ (IsS79.ge HI0.out)) | exact HB.out), nk_ HK.out⟩
   rw [if_neg c24] at H
   have c24b0 : (t289 == 1) = false := beq_eq_false_iff_ne.mpr c24
   have c24b1 : (t289 != 1) = true := bne_iff_ne.mpr c24
   by_cases c29 : t289 = 2
   rotate_left
   ·rw [if_neg c29] at H
    have c29b0 : (t289 == 2) = false := beq_eq_false_iff_ne.mpr c29
    have c29b1 : (t289 != 2) = true := bne_iff_ne.mpr c29
    simp only [Option.some.injEq, Prod.mk.injEq] at H
    obtain ⟨rfl, rfl⟩ := H
    go_enter Tryd.func40, Tryd.ntmps40
    go_wp2_with (first | ((with_reducible refine gate_callee (f := 39) rfl ?_); refine gl_ (some 10) Tryd.func39 #[.pointer (some ⟨g, 0, none⟩), .int .i64 (wrap64 ((a1.size : Int) + 1))] ?_; (with_reducible refine (spec_l30Rd_pick.calls k g s0_0 s0_1 (wrap64 ((a1.size : Int) + 1)) t287 t288 w0 _ ?side1 ?side2 A3.out).mono ?_); (case side1 => exact (ni79_40 HI0.out)); (case side2 => exact (ng79_40 HB.out)); rintro e w38 ⟨rfl, hi, hb, hk⟩; refine ⟨_, rfl, ?_⟩; replace HK := Aside0.mk (KeepBut.trans (nk_ HK.out) hk (.inl rfl)); replace HB := Aside0.mk (hb); replace HI0 := Aside0.mk (hi); (try clear hb); (try clear hb2); (try clear hk); (try clear hi)) | ((with_reducible refine gate_callee (f := 39) rfl ?_); refine gl_ (some 12) Tryd.func39 #[.pointer (some ⟨g, 0, none⟩), .int .i64 5] ?_; (with_reducible refine (spec_l30Rd_pick.calls k g s0_0 t288 5 t289 t290 w0 _ ?side1 ?side2 A4.out).mono ?_); (case side1 => exact (ni79_40 HI0.out)); (case side2 => exact (ng79_40 HB.out)); rintro e w39 ⟨rfl, hi, hb, hk⟩; refine ⟨_, rfl, ?_⟩; replace HK := Aside0.mk (KeepBut.trans (nk_ HK.out) hk (.inl rfl)); replace HB := Aside0.mk (hb); replace HI0 := Aside0.mk (hi); (try clear hb); (try clear hb2); (try clear hk); (try clear hi)))
    go_ret
    exact ⟨nw_, ni79_40 HI0.out, by repeat (first | (with_reducible first | exact HB.out | apply below_alloc | apply pw_below_drewN | apply below_drew1 | refine below_set ?_ (IsS79.ge HI0.out)) | exact HB.out), nk_ HK.out⟩

   rw [if_pos c29] at H
   have c29b0 : (t289 == 2) = true := beq_iff_eq.mpr c29
   have c29b1 : (t289 != 2) = false := bne_eq_false_iff_eq.mpr c29
   clear c29
   obtain ⟨y296, hy296⟩ : ∃ y_ : List ByteArray, y_ = (([(⟨#[48]⟩ : ByteArray), (⟨#[32]⟩ : ByteArray), (⟨#[10]⟩ : ByteArray), (⟨#[49]⟩ : ByteArray)] : List ByteArray)) := ⟨_, rfl⟩
   replace H : ((spec_l30Rd_of.f k s0_0 t290 y296).bind fun bt299 => (if a1.size + bt299.1.size ≤ 9223372036854775807 then (some (a1 ++ bt299.1, bt299.2)) else (none))) = some (r1, r2) := by first | (rw [hy296]; with_reducible exact H) | (have H2_ := (Option.bind_some _ _).symm.trans H; rw [hy296]; with_reducible exact H2_) | (have H2_ := (Option.bind_some _ _).symm.trans H; with_reducible exact H2_) | with_reducible exact H | (rw [hy296]; exact H) | exact H
   have Ny296 := Aside0.mk hy296
   clear hy296
   replace H := Option.bind_eq_some_iff.mp H
   obtain ⟨⟨t299, t300⟩, A300, H⟩ := H
   replace H : (if a1.size + t299.size ≤ 9223372036854775807 then (some (a1 ++ t299, t300)) else (none)) = some (r1, r2) := H
   have A30 := Aside0.mk A300
   clear A300
   by_cases c31 : a1.size + t299.size ≤ 9223372036854775807
   rotate_left
   ·rw [if_neg c31] at H
    exact absurd H (by simp)
   rw [if_pos c31] at H
   have c31b0 := eq_true c31
   have c31b1 : decide (a1.size + t299.size ≤ 9223372036854775807) = true := decide_eq_true c31
   try have c31b2 : (9223372036854775807 < a1.size + t299.size) = False := eq_false (Nat.not_lt.2 c31)
   simp only [Option.some.injEq, Prod.mk.injEq] at H
   obtain ⟨rfl, rfl⟩ := H
   go_enter Tryd.func40, Tryd.ntmps40
   go_wp2_with (first | ((with_reducible refine gate_callee (f := 39) rfl ?_); refine gl_ (some 10) Tryd.func39 #[.pointer (some ⟨g, 0, none⟩), .int .i64 (wrap64 ((a1.size : Int) + 1))] ?_; (with_reducible refine (spec_l30Rd_pick.calls k g s0_0 s0_1 (wrap64 ((a1.size : Int) + 1)) t287 t288 w0 _ ?side1 ?side2 A3.out).mono ?_); (case side1 => exact (ni79_40 HI0.out)); (case side2 => exact (ng79_40 HB.out)); rintro e w32 ⟨rfl, hi, hb, hk⟩; refine ⟨_, rfl, ?_⟩; replace HK := Aside0.mk (KeepBut.trans (nk_ HK.out) hk (.inl rfl)); replace HB := Aside0.mk (hb); replace HI0 := Aside0.mk (hi); (try clear hb); (try clear hb2); (try clear hk); (try clear hi)) | ((with_reducible refine gate_callee (f := 39) rfl ?_); refine gl_ (some 12) Tryd.func39 #[.pointer (some ⟨g, 0, none⟩), .int .i64 5] ?_; (with_reducible refine (spec_l30Rd_pick.calls k g s0_0 t288 5 t289 t290 w0 _ ?side1 ?side2 A4.out).mono ?_); (case side1 => exact (ni79_40 HI0.out)); (case side2 => exact (ng79_40 HB.out)); rintro e w33 ⟨rfl, hi, hb, hk⟩; refine ⟨_, rfl, ?_⟩; replace HK := Aside0.mk (KeepBut.trans (nk_ HK.out) hk (.inl rfl)); replace HB := Aside0.mk (hb); replace HI0 := Aside0.mk (hi); (try clear hb); (try clear hb2); (try clear hk); (try clear hi)) | ((with_reducible refine gate_dst (N := 40) rfl ?_); refine Kd.R_lit Kd.string _ 9 ?hg (N := 40) ?hd (xs := ([(⟨#[48]⟩ : ByteArray), (⟨#[32]⟩ : ByteArray), (⟨#[10]⟩ : ByteArray), (⟨#[49]⟩ : ByteArray)] : List ByteArray)) (inner := [.string (⟨#[48]⟩ : ByteArray), .string (⟨#[32]⟩ : ByteArray), .string (⟨#[10]⟩ : ByteArray), .string (⟨#[49]⟩ : ByteArray)]) (ok := fun _ => True) (okp := fun _ => True) ?hr ?hp (fun _ hk => hk) trivial (Below.refl _ _) (Nat.le_refl _) (by simp) ?_; (case hd => rfl); (case hg => rfl); (case hr => first | (go_simp; done) | (go_simp; rfl)); (case hp => exact (Reps.one (show Kd.M Kd.string _ _ _ (⟨#[48]⟩ : ByteArray) [.string (⟨#[48]⟩ : ByteArray)] from rfl) (Reps.one (show Kd.M Kd.string _ _ _ (⟨#[32]⟩ : ByteArray) [.string (⟨#[32]⟩ : ByteArray)] from rfl) (Reps.one (show Kd.M Kd.string _ _ _ (⟨#[10]⟩ : ByteArray) [.string (⟨#[10]⟩ : ByteArray)] from rfl) (Reps.one (show Kd.M Kd.string _ _ _ (⟨#[49]⟩ : ByteArray) [.string (⟨#[49]⟩ : ByteArray)] from rfl) (Reps.none _ _)))))); intro v297 w34 ho35 hb hg_ hnew_; clear hg_ hnew_; (first | rw [← Ny296.out] at ho35 | (simp only [Int.reduceToNat] at ho35; rw [← Ny296.out] at ho35)); have HO298 := Aside0.mk (Kd.R_lower ho35 (keep_size (w := w) (g := g) (row := none) (nk_ HK.out))); replace HI0 := Aside0.mk (IsS79.below (ni79_40 HI0.out) hb); replace HK := Aside0.mk (KeepBut.trans (nk_ HK.out) (KeepBut.of_below hb g none) (.inl rfl)); replace HB := Aside0.mk (below_step (ng79_40 HB.out) hb); clear hb ho35; obtain ⟨Ao36, co36, eo36⟩ := Kd.R_slice HO298.out; subst eo36) | ((with_reducible refine gate_callee (f := 60) rfl ?_); refine gl_ (some 41) Tryd.func60 #[.pointer (some ⟨g, 0, none⟩), .slice Ao36 y296.length co36] ?_; (with_reducible refine (spec_l30Rd_of.calls k g s0_0 t290 _ _ y296 t299 t300 w0 _ ?side1 ?side2 ?side3 ?side4 ?side5 A30.out).mono ?_); (case side1 => exact (ni79_40 HI0.out)); (case side2 => exact (ng79_40 HB.out)); (case side3 => exact nc_ (Kd.R_reads' HO298.out).2.2); (case side4 => exact (Kd.R_reads' HO298.out).2.1); (case side5 => exact far_slice (IsS79.own_ne HI0.out HO298.out (by decide))); rintro e w37 ⟨rfl, hi, hb, hk⟩; refine ⟨_, rfl, ?_⟩; replace HO298 := Aside0.mk (Kd.R_mono (Kd.R_keep (IsS79.apart (show IsS79 w0 _ g s0_0 t290 from ni79_40 HI0.out) (nr_ HO298.out) (by decide)) hk (fun _ h => h.2)) (fun _ h => h.1)); replace HK := Aside0.mk (KeepBut.trans (nk_ HK.out) hk (.inl rfl)); replace HB := Aside0.mk (hb); replace HI0 := Aside0.mk (hi); (try clear hb); (try clear hb2); (try clear hk); (try clear hi)))
   go_ret
   exact ⟨nw_, ni79_40 HI0.out, by repeat (first | (with_reducible first | exact HB.out | apply below_alloc | apply pw_below_drewN | apply below_drew1 | refine below_set ?_ (IsS79.ge HI0.out)) | exact HB.out), nk_ HK.out⟩
  rw [if_pos c5] at H
  have c5b0 : (t289 == 0) = true := beq_iff_eq.mpr c5
  have c5b1 : (t289 != 0) = false := bne_eq_false_iff_eq.mpr c5
  clear c5
  by_cases c6 : t287 < (a1.size : Int)
  rotate_left
  ·rw [if_neg c6] at H
   have c6b0 : decide (t287 < (a1.size : Int)) = false := decide_eq_false c6
   clear c6
   simp only [Option.some.injEq, Prod.mk.injEq] at H
   obtain ⟨rfl, rfl⟩ := H
   go_enter Tryd.func40, Tryd.ntmps40
   go_wp2_with (first | ((with_reducible refine gate_callee (f := 39) rfl ?_); refine gl_ (some 10) Tryd.func39 #[.pointer (some ⟨g, 0, none⟩), .int .i64 (wrap64 ((a1.size : Int) + 1))] ?_; (with_reducible refine (spec_l30Rd_pick.calls k g s0_0 s0_1 (wrap64 ((a1.size : Int) + 1)) t287 t288 w0 _ ?side1 ?side2 A3.out).mono ?_); (case side1 => exact (ni79_40 HI0.out)); (case side2 => exact (ng79_40 HB.out)); rintro e w22 ⟨rfl, hi, hb, hk⟩; refine ⟨_, rfl, ?_⟩; replace HK := Aside0.mk (KeepBut.trans (nk_ HK.out) hk (.inl rfl)); replace HB := Aside0.mk (hb); replace HI0 := Aside0.mk (hi); (try clear hb); (try clear hb2); (try clear hk); (try clear hi)) | ((with_reducible refine gate_callee (f := 39) rfl ?_); refine gl_ (some 12) Tryd.func39 #[.pointer (some ⟨g, 0, none⟩), .int .i64 5] ?_; (with_reducible refine (spec_l30Rd_pick.calls k g s0_0 t288 5 t289 t290 w0 _ ?side1 ?side2 A4.out).mono ?_); (case side1 => exact (ni79_40 HI0.out)); (case side2 => exact (ng79_40 HB.out)); rintro e w23 ⟨rfl, hi, hb, hk⟩; refine ⟨_, rfl, ?_⟩; replace HK := Aside0.mk (KeepBut.trans (nk_ HK.out) hk (.inl rfl)); replace HB := Aside0.mk (hb); replace HI0 := Aside0.mk (hi); (try clear hb); (try clear hb2); (try clear hk); (try clear hi)))
   go_ret
   exact ⟨nw_, ni79_40 HI0.out, by repeat (first | (with_reducible first | exact HB.out | apply below_alloc | apply pw_below_drewN | apply below_drew1 | refine below_set ?_ (IsS79.ge HI0.out)) | exact HB.out), nk_ HK.out⟩
  rw [if_pos c6] at H
  have c6b0 : decide (t287 < (a1.size : Int)) = true := decide_eq_true c6
  clear c6
  by_cases c7 : 0 ≤ t287
  rotate_left
  ·rw [if_neg c7] at H
   exact absurd H (by simp)
  rw [if_pos c7] at H
  have c7b0 := eq_true c7
  have c7b1 : decide (0 ≤ t287) = true := decide_eq_true c7
  clear c7
  by_cases c8 : t287 ≤ (a1.size : Int)
  rotate_left
  ·rw [if_neg c8] at H
   exact absurd H (by simp)
  rw [if_pos c8] at H
  have c8b0 := eq_true c8
  have c8b1 : decide (t287 ≤ (a1.size : Int)) = true := decide_eq_true c8
  clear c8
  obtain ⟨y291, hy291⟩ : ∃ y_ : List ByteArray, y_ = (([(⟨#[48]⟩ : ByteArray), (⟨#[49]⟩ : ByteArray), (⟨#[32]⟩ : ByteArray), (⟨#[45]⟩ : ByteArray), (⟨#[10]⟩ : ByteArray), (⟨#[120]⟩ : ByteArray)] : List ByteArray)) := ⟨_, rfl⟩
  replace H : ((spec_l30Rd_of.f k s0_0 t290 y291).bind fun bt294 => (if (a1.extract 0 (t287 : Int).toNat).size + bt294.1.size ≤ 9223372036854775807 then (if 0 ≤ (wrap64 (t287 + 1)) then (if (wrap64 (t287 + 1)) ≤ (a1.size : Int) then (if ((a1.extract 0 (t287 : Int).toNat) ++ bt294.1).size + (a1.extract ((wrap64 (t287 + 1)) : Int).toNat a1.size).size ≤ 9223372036854775807 then (some (((a1.extract 0 (t287 : Int).toNat) ++ bt294.1) ++ (a1.extract ((wrap64 (t287 + 1)) : Int).toNat a1.size), bt294.2)) else (none)) else (none)) else (none)) else (none))) = some (r1, r2) := by first | (rw [hy291]; with_reducible exact H) | (have H2_ := (Option.bind_some _ _).symm.trans H; rw [hy291]; with_reducible exact H2_) | (have H2_ := (Option.bind_some _ _).symm.trans H; with_reducible exact H2_) | with_reducible exact H | (rw [hy291]; exact H) | exact H
  have Ny291 := Aside0.mk hy291
  clear hy291
  replace H := Option.bind_eq_some_iff.mp H
  obtain ⟨⟨t294, t295⟩, A90, H⟩ := H
  try dsimp only at H
  have A9 := Aside0.mk A90
  clear A90
  by_cases c10 : (a1.extract 0 (t287 : Int).toNat).size + t294.size ≤ 9223372036854775807
  rotate_left
  ·rw [if_neg c10] at H
   exact absurd H (by simp)
  rw [if_pos c10] at H
  have c10b0 := eq_true c10
  have c10b1 : decide ((a1.extract 0 (t287 : Int).toNat).size + t294.size ≤ 9223372036854775807) = true := decide_eq_true c10
  try have c10b2 : (9223372036854775807 < (a1.extract 0 (t287 : Int).toNat).size + t294.size) = False := eq_false (Nat.not_lt.2 c10)
  try have c10b3 : (9223372036854775807 < (t287 : Int).toNat + t294.size) = False := eq_false (Nat.not_lt.2 (by have q_ := c10; simp only [ByteArray.size_append, ByteArray.size_extract] at q_; first | exact q_ | (simp only [eq_iff_iff, iff_true, decide_eq_true_eq] at *; omega)))
  obtain ⟨ji11, hji11⟩ : ∃ j_ : Int, (wrap64 (t287 + 1)) = j_ := ⟨_, rfl⟩
  replace H : (if 0 ≤ (ji11) then (if (ji11) ≤ (a1.size : Int) then (if ((a1.extract 0 (t287 : Int).toNat) ++ t294).size + (a1.extract ((ji11) : Int).toNat a1.size).size ≤ 9223372036854775807 then (some (((a1.extract 0 (t287 : Int).toNat) ++ t294) ++ (a1.extract ((ji11) : Int).toNat a1.size), t295)) else (none)) else (none)) else (none)) = some (r1, r2) := by first | (rw [hji11] at H; exact H) | (simp only [hji11] at H ⊢; exact H)
  (try rw [hji11] at A3)
  (try rw [hji11] at A4)
  (try rw [hji11] at A9)
  have hji11w : (IntKind.i64.wrap (t287 + 1)) = ji11 := (i64_w _).trans hji11
  by_cases c12 : 0 ≤ (ji11)
  rotate_left
  ·rw [if_neg c12] at H
   exact absurd H (by simp)
  rw [if_pos c12] at H
  have c12b0 := eq_true c12
  have c12b1 : decide (0 ≤ (ji11)) = true := decide_eq_true c12
  clear c12
  by_cases c13 : (ji11) ≤ (a1.size : Int)
  rotate_left
  ·rw [if_neg c13] at H
   exact absurd H (by simp)
  rw [if_pos c13] at H
  have c13b0 := eq_true c13
  have c13b1 : decide ((ji11) ≤ (a1.size : Int)) = true := decide_eq_true c13
  clear c13
  by_cases c14 : ((a1.extract 0 (t287 : Int).toNat) ++ t294).size + (a1.extract ((ji11) : Int).toNat a1.size).size ≤ 9223372036854775807
  rotate_left
  ·rw [if_neg c14] at H
   exact absurd H (by simp)
  rw [if_pos c14] at H
  have c14b0 := eq_true c14
  have c14b1 : decide (((a1.extract 0 (t287 : Int).toNat) ++ t294).size + (a1.extract ((ji11) : Int).toNat a1.size).size ≤ 9223372036854775807) = true := decide_eq_true c14
  try have c14b2 : (9223372036854775807 < ((a1.extract 0 (t287 : Int).toNat) ++ t294).size + (a1.extract ((ji11) : Int).toNat a1.size).size) = False := eq_false (Nat.not_lt.2 c14)
  try have c14b3 : (9223372036854775807 < (t287 : Int).toNat + t294.size + (a1.size - ((ji11) : Int).toNat)) = False := eq_false (Nat.not_lt.2 (by have q_ := c14; simp only [ByteArray.size_append, ByteArray.size_extract] at q_; first | exact q_ | (simp only [eq_iff_iff, iff_true, decide_eq_true_eq] at *; omega)))
  simp only [Option.some.injEq, Prod.mk.injEq] at H
  obtain ⟨rfl, rfl⟩ := H
  go_enter Tryd.func40, Tryd.ntmps40
  try go_wp2_with (first | ((with_reducible refine gate_callee (f := 39) rfl ?_); refine gl_ (some 10) Tryd.func39 #[.pointer (some ⟨g, 0, none⟩), .int .i64 (wrap64 ((a1.size : Int) + 1))] ?_; (with_reducible refine (spec_l30Rd_pick.calls k g s0_0 s0_1 (wrap64 ((a1.size : Int) + 1)) t287 t288 w0 _ ?side1 ?side2 A3.out).mono ?_); (case side1 => exact (ni79_40 HI0.out)); (case side2 => exact (ng79_40 HB.out)); rintro e w15 ⟨rfl, hi, hb, hk⟩; refine ⟨_, rfl, ?_⟩; replace HK := Aside0.mk (KeepBut.trans (nk_ HK.out) hk (.inl rfl)); replace HB := Aside0.mk (hb); replace HI0 := Aside0.mk (hi); (try clear hb); (try clear hb2); (try clear hk); (try clear hi)) | ((with_reducible refine gate_callee (f := 39) rfl ?_); refine gl_ (some 12) Tryd.func39 #[.pointer (some ⟨g, 0, none⟩), .int .i64 5] ?_; (with_reducible refine (spec_l30Rd_pick.calls k g s0_0 t288 5 t289 t290 w0 _ ?side1 ?side2 A4.out).mono ?_); (case side1 => exact (ni79_40 HI0.out)); (case side2 => exact (ng79_40 HB.out)); rintro e w16 ⟨rfl, hi, hb, hk⟩; refine ⟨_, rfl, ?_⟩; replace HK := Aside0.mk (KeepBut.trans (nk_ HK.out) hk (.inl rfl)); replace HB := Aside0.mk (hb); replace HI0 := Aside0.mk (hi); (try clear hb); (try clear hb2); (try clear hk); (try clear hi)))
  replace HI0 := Aside0.mk (IsS79.drew HI0.out)
  replace HK := Aside0.mk (keep_drew HK.out)
  replace HB := Aside0.mk (below_drew1 HB.out)
  refine start_ (n := 13) (S := fun w' => True) (ds := []) (bm_ 13 0) (by kernel_rfl) rfl rfl trivial (fun hHeld => ?_); refine with_tabW spec_l30Bent.tab5 spec_l30Bent.bits5 (fun HT_ HW_ => ?_)
  generalize w16.drew = w17 at HI0 HK HB hHeld ⊢
  refine pu_ 0 19 (bm_ 13 1) HT_.out ?_
  refine pu_ 1 20 (bm_ 13 3) HT_.out ?_
  refine pu_ 2 21 (bm_ 13 7) HT_.out ?_
  refine pu_ 3 22 (bm_ 13 15) HT_.out ?_
  refine pu_ 7 26 (bm_ 13 143) HT_.out ?_
  refine pu_ 8 27 (bm_ 13 399) HT_.out ?_
  refine pu_ 9 28 (bm_ 13 911) HT_.out ?_
  refine pu_ 10 29 (bm_ 13 1935) HT_.out ?_
  refine one_ (i := 4) (N := some 23) (bm_ 13 1951) rfl rfl (one_of HT_.out (by kernel_rfl)) (by decide) (fun K hK => ?_)
  refine Kd.R_lit_step Kd.string _ 9 ?hg (N := 23) ?hd (xs := ([(⟨#[48]⟩ : ByteArray), (⟨#[49]⟩ : ByteArray), (⟨#[32]⟩ : ByteArray), (⟨#[45]⟩ : ByteArray), (⟨#[10]⟩ : ByteArray), (⟨#[120]⟩ : ByteArray)] : List ByteArray)) (inner := [.string (⟨#[48]⟩ : ByteArray), .string (⟨#[49]⟩ : ByteArray), .string (⟨#[32]⟩ : ByteArray), .string (⟨#[45]⟩ : ByteArray), .string (⟨#[10]⟩ : ByteArray), .string (⟨#[120]⟩ : ByteArray)]) (ok := fun _ => True) (okp := fun _ => True) ?hr ?hp (fun _ hk => hk) trivial (Below.refl _ _) (Nat.le_refl _) (by simp) ?_; (case hd => rfl); (case hg => rfl); (case hr => first | (go_simp; done) | (go_simp; rfl)); (case hp => exact (Reps.one (show Kd.M Kd.string _ _ _ (⟨#[48]⟩ : ByteArray) [.string (⟨#[48]⟩ : ByteArray)] from rfl) (Reps.one (show Kd.M Kd.string _ _ _ (⟨#[49]⟩ : ByteArray) [.string (⟨#[49]⟩ : ByteArray)] from rfl) (Reps.one (show Kd.M Kd.string _ _ _ (⟨#[32]⟩ : ByteArray) [.string (⟨#[32]⟩ : ByteArray)] from rfl) (Reps.one (show Kd.M Kd.string _ _ _ (⟨#[45]⟩ : ByteArray) [.string (⟨#[45]⟩ : ByteArray)] from rfl) (Reps.one (show Kd.M Kd.string _ _ _ (⟨#[10]⟩ : ByteArray) [.string (⟨#[10]⟩ : ByteArray)] from rfl) (Reps.one (show Kd.M Kd.string _ _ _ (⟨#[120]⟩ : ByteArray) [.string (⟨#[120]⟩ : ByteArray)] from rfl) (Reps.none _ _))))))))
  intro v292 w18 ho19 hb hg_ hnew_
  clear hg_ hnew_
  (first | rw [← Ny291.out] at ho19 | (simp only [Int.reduceToNat] at ho19; rw [← Ny291.out] at ho19))
  have HO293 := Aside0.mk (Kd.R_lower ho19 (keep_size (w := w) (g := g) (row := none) (nk_ HK.out)))
  replace HK := Aside0.mk (KeepBut.trans (nk_ HK.out) (KeepBut.of_below hb g none) (.inl rfl))
  replace HB := Aside0.mk (below_step (ng79_40 HB.out) hb)
  replace HI0 := Aside0.mk (IsS79.below (ni79_40 HI0.out) hb)
  clear hb ho19
  obtain ⟨Ao20, co20, eo20⟩ := Kd.R_slice HO293.out
  (first | subst eo20 | (injection eo20 with f1_ f2_ f3_; have f4_ := f1_.symm; have f5_ := f3_.symm; clear f1_ f2_ f3_; subst f4_; subst f5_))
  refine hK.out _ _ trivial (fun hHeld => ?_)
  clear hK K
  refine nm1_ (some 23) ?_
  refine one_ (i := 5) (N := some 24) (bm_ 13 1983) rfl rfl (one_of HT_.out (by kernel_rfl)) (by decide) (fun K hK => ?_)
  refine go_ Tryd.func60 #[.pointer (some ⟨g, 0, none⟩), .slice Ao20 y291.length co20] ?_
  with_reducible refine (spec_l30Rd_of.calls k g s0_0 t290 _ _ y291 t294 t295 w0 _ ?side1 ?side2 ?side3 ?side4 ?side5 A9.out).mono ?_
  (case side1 => exact (ni79_40 HI0.out))
  (case side2 => exact (ng79_40 HB.out))
  (case side3 => exact nc_ (Kd.R_reads' HO293.out).2.2)
  (case side4 => exact (Kd.R_reads' HO293.out).2.1)
  (case side5 => exact far_slice (IsS79.own_ne HI0.out HO293.out (by decide)))
  rintro e w21 ⟨rfl, hi, hb, hk⟩
  refine ⟨_, rfl, ?_⟩
  replace HO293 := Aside0.mk (Kd.R_mono (Kd.R_keep (IsS79.apart (show IsS79 w0 _ g s0_0 t290 from ni79_40 HI0.out) (nr_ HO293.out) (by decide)) hk (fun _ h => h.2)) (fun _ h => h.1))
  replace HK := Aside0.mk (KeepBut.trans (nk_ HK.out) hk (.inl rfl))
  replace HB := Aside0.mk (hb)
  replace HI0 := Aside0.mk (hi)
  (try clear hb)
  (try clear hb2)
  (try clear hk)
  (try clear hi)
  refine hK.out _ _ trivial (fun hHeld => ?_)
  clear hK K
  refine nm1_ (some 24) ?_
  refine pu_ 6 25 (bm_ 13 2047) HT_.out ?_
  refine pu_ 11 30 (bm_ 13 4095) HT_.out ?_
  refine pu_ 12 4 (bm_ 13 8191) HT_.out ?_
  refine done_ (done_of HT_.out (by kernel_rfl)) ?_
  try go_wp2
  go_ret
  exact ⟨by first | rfl | (simp [errW_none, errW_some] <;> rfl) | (simp only [← hji11]; first | rfl | (simp [errW_none, errW_some] <;> rfl)) | (simp [*, errW_none, errW_some] <;> rfl), ni79_40 HI0.out, by repeat (first | (with_reducible first | exact HB.out | apply below_alloc | apply pw_below_drewN | apply below_drew1 | refine below_set ?_ (IsS79.ge HI0.out)) | exact HB.out), nk_ HK.out⟩
end Go.Proofs.YtppjelkljihdoaaDoor.Print
