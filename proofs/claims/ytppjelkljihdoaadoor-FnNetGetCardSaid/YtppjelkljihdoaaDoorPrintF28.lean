-- Made by this session's own program (wip/patch_print.py, over the kit's print). Lean checks it.
import Derived.Test.YtppjelkljihdoaaDoorPrint0
import Derived.Test.YtppjelkljihdoaaDoorPrintF53
namespace Go.Proofs.YtppjelkljihdoaaDoor.Print
open Go.RowKit Go.Proofs.YtppjelkljihdoaaDoorW.PrintWords Go.Proofs.YtppjelkljihdoaaDoorW.PrintLast Go.Proofs.YtppjelkljihdoaaDoorW.PrintMore Go.Proofs.YtppjelkljihdoaaDoorX
attribute [local go_sem] max2_int min2_int max_two min_two max_three min_three max_four min_four   -- for this text's walks alone
set_option linter.unusedVariables false
set_option linter.unusedSimpArgs false

/-! ### spec_l1Put: function 28 -/
def spec_l1Put.l0 : Nat → ByteArray → Int → Int → List (S54) → Option (ByteArray)
  | 0, _, _, _, _ => none
  | k + 1, x3, x4, x225000, x225001 => if x4 < (x225001.length : Int) then (if 0 ≤ x4 then ((spec_l1Dec.f k ((rd_T54 x225001 x4).f0)).bind fun t228 => (if x3.size + t228.size ≤ 9223372036854775807 then (if (x3 ++ t228).size + 1 ≤ 9223372036854775807 then ((spec_l1Dec.f k ((rd_T54 x225001 x4).f1)).bind fun t229 => (if ((x3 ++ t228) ++ (⟨#[32]⟩ : ByteArray)).size + t229.size ≤ 9223372036854775807 then (if (((x3 ++ t228) ++ (⟨#[32]⟩ : ByteArray)) ++ t229).size + 1 ≤ 9223372036854775807 then ((spec_l1Dec.f k ((rd_T54 x225001 x4).f2)).bind fun t230 => (if ((((x3 ++ t228) ++ (⟨#[32]⟩ : ByteArray)) ++ t229) ++ (⟨#[32]⟩ : ByteArray)).size + t230.size ≤ 9223372036854775807 then (if (((((x3 ++ t228) ++ (⟨#[32]⟩ : ByteArray)) ++ t229) ++ (⟨#[32]⟩ : ByteArray)) ++ t230).size + 1 ≤ 9223372036854775807 then ((spec_l1Dec.f k ((rd_T54 x225001 x4).f3)).bind fun t231 => (if ((((((x3 ++ t228) ++ (⟨#[32]⟩ : ByteArray)) ++ t229) ++ (⟨#[32]⟩ : ByteArray)) ++ t230) ++ (⟨#[32]⟩ : ByteArray)).size + t231.size ≤ 9223372036854775807 then (if (((((((x3 ++ t228) ++ (⟨#[32]⟩ : ByteArray)) ++ t229) ++ (⟨#[32]⟩ : ByteArray)) ++ t230) ++ (⟨#[32]⟩ : ByteArray)) ++ t231).size + 1 ≤ 9223372036854775807 then ((spec_l1Dec.f k ((rd_T54 x225001 x4).f4)).bind fun t232 => (if ((((((((x3 ++ t228) ++ (⟨#[32]⟩ : ByteArray)) ++ t229) ++ (⟨#[32]⟩ : ByteArray)) ++ t230) ++ (⟨#[32]⟩ : ByteArray)) ++ t231) ++ (⟨#[32]⟩ : ByteArray)).size + t232.size ≤ 9223372036854775807 then (if (((((((((x3 ++ t228) ++ (⟨#[32]⟩ : ByteArray)) ++ t229) ++ (⟨#[32]⟩ : ByteArray)) ++ t230) ++ (⟨#[32]⟩ : ByteArray)) ++ t231) ++ (⟨#[32]⟩ : ByteArray)) ++ t232).size + 1 ≤ 9223372036854775807 then (spec_l1Put.l0 k ((((((((((x3 ++ t228) ++ (⟨#[32]⟩ : ByteArray)) ++ t229) ++ (⟨#[32]⟩ : ByteArray)) ++ t230) ++ (⟨#[32]⟩ : ByteArray)) ++ t231) ++ (⟨#[32]⟩ : ByteArray)) ++ t232) ++ (⟨#[10]⟩ : ByteArray)) (wrap64 (x4 + 1)) x225000 x225001) else (none)) else (none))) else (none)) else (none))) else (none)) else (none))) else (none)) else (none))) else (none)) else (none))) else (none)) else (some x3)
def spec_l1Put.f (k : Nat) (a0_0 : Int) (l0_1 : List (S54)) : Option (ByteArray) := (spec_l1Dec.f k a0_0).bind fun t225 => (if 4 + t225.size ≤ 9223372036854775807 then (if ((⟨#[110, 101, 116, 32]⟩ : ByteArray) ++ t225).size + 1 ≤ 9223372036854775807 then (spec_l1Put.l0 k (((⟨#[110, 101, 116, 32]⟩ : ByteArray) ++ t225) ++ (⟨#[10]⟩ : ByteArray)) 0 a0_0 l0_1) else (none)) else (none))
theorem spec_l1Put.mono_l : ∀ k, (∀ y0 y1 y2 y3, LeO (spec_l1Put.l0 k y0 y1 y2 y3) (spec_l1Put.l0 (k + 1) y0 y1 y2 y3))
  | 0 => fun _ _ _ _ r h => by simp [spec_l1Put.l0] at h
  | k + 1 => by
    have ih0 := spec_l1Put.mono_l k
    · intro y0 y1 y2 y3
      unfold spec_l1Put.l0
      repeat' first | (with_reducible first | exact ih0 _ _ _ _ | exact spec_l1Dec.mono _ _ | exact LeO.refl _ | exact LeO.none _ | refine LeO.ite ?_ ?_ | refine LeO.bind ?_ (fun _ => ?_)) | exact ih0 _ _ _ _ | exact spec_l1Dec.mono _ _ | exact LeO.none _ | refine LeO.ite ?_ ?_ | refine LeO.bind ?_ (fun _ => ?_)
theorem spec_l1Put.mono : ∀ a0 a1 k, LeO (spec_l1Put.f k a0 a1) (spec_l1Put.f (k + 1) a0 a1) := by
  intro a0 a1 k
  have ih0 := spec_l1Put.mono_l k
  unfold spec_l1Put.f
  repeat' first | (with_reducible first | exact ih0 _ _ _ _ | exact spec_l1Dec.mono _ _ | exact LeO.refl _ | exact LeO.none _ | refine LeO.ite ?_ ?_ | refine LeO.bind ?_ (fun _ => ?_)) | exact ih0 _ _ _ _ | exact spec_l1Dec.mono _ _ | exact LeO.none _ | refine LeO.ite ?_ ?_ | refine LeO.bind ?_ (fun _ => ?_)
def spec_l1Put.T6 : Bool × List (List Nat × List Nat) := (true, [([], []), ([], []), ([1], [1]), ([2], [2]), ([0, 3], [0, 3]), ([4], [4]), ([], []), ([6], [6]), ([7, 3], [7]), ([5, 8], [5, 8]), ([9], [9]), ([], []), ([11], [11]), ([12, 8], [12]), ([10, 13], [10, 13]), ([14], [14]), ([], []), ([16], [16]), ([17, 13], [17]), ([15, 18], [15, 18]), ([19], [19]), ([], []), ([21], [21]), ([22, 18], [22]), ([20, 23], [20, 23]), ([24], [24]), ([25, 23, 0, 1, 2, 3, 4, 5, 6, 7, 8, 9, 10, 11, 12, 13, 14, 15, 16, 17, 18, 19, 20, 21, 22, 23, 24, 25], [0, 25])])
def spec_l1Put.B6 : List Nat := [0, 0, 2, 6, 15, 31, 0, 64, 206, 511, 1023, 0, 2048, 6606, 16383, 32767, 0, 65536, 211406, 524287, 1048575, 0, 2097152, 6765006, 16777215, 33554431, 67108863]
theorem spec_l1Put.tab6 : rtab .any (opsOf Tryd.f28 6) = spec_l1Put.T6 := by kernel_rfl
theorem spec_l1Put.bits6 : waitsOk spec_l1Put.T6.2 spec_l1Put.B6 = true := by kernel_rfl
set_option maxHeartbeats 200000000 in
set_option maxRecDepth 100000 in
theorem spec_l1Put.calls (k : Nat) (a0_0 : Int) (A0_1 : Option Addr) (c0_1 : Nat) (l0_1 : List (S54)) (r : ByteArray) (w : World) (hr0_1 : Kd.C k54 w A0_1 l0_1.length l0_1) (hc0_1 : l0_1.length ≤ c0_1) (h : spec_l1Put.f k a0_0 l0_1 = some r) :
    Calls Tryd.prog 28 #[.agg #[.int .i64 a0_0, .slice A0_1 l0_1.length c0_1]] w fun e w' => e = .returned (.string r) ∧ Below w.heap.size w w' := by
  have hu25 := Tryd.underlying25
  have hu54 := Tryd.underlying54
  have HR0_1 := Aside0.mk hr0_1
  have HC0_1 := Aside0.mk hc0_1
  clear hr0_1 hc0_1
  have HB := Aside0.mk (Below.refl w.heap.size w)
  have H : ((spec_l1Dec.f k a0_0).bind fun t225 => (if 4 + t225.size ≤ 9223372036854775807 then (if ((⟨#[110, 101, 116, 32]⟩ : ByteArray) ++ t225).size + 1 ≤ 9223372036854775807 then (spec_l1Put.l0 k (((⟨#[110, 101, 116, 32]⟩ : ByteArray) ++ t225) ++ (⟨#[10]⟩ : ByteArray)) 0 a0_0 l0_1) else (none)) else (none))) = some r := h
  clear h
  replace H := Option.bind_eq_some_iff.mp H
  obtain ⟨t225, A20, H⟩ := H
  try dsimp only at H
  have A2 := Aside0.mk A20
  clear A20
  by_cases c3 : 4 + t225.size ≤ 9223372036854775807
  rotate_left
  ·rw [if_neg c3] at H
   exact absurd H (by simp)

  rw [if_pos c3] at H
  have c3b0 := eq_true c3
  have c3b1 : decide (4 + t225.size ≤ 9223372036854775807) = true := decide_eq_true c3
  try have c3b2 : (9223372036854775807 < 4 + t225.size) = False := eq_false (Nat.not_lt.2 c3)
  by_cases c4 : ((⟨#[110, 101, 116, 32]⟩ : ByteArray) ++ t225).size + 1 ≤ 9223372036854775807
  rotate_left
  ·rw [if_neg c4] at H
   exact absurd H (by simp)
  rw [if_pos c4] at H
  have c4b0 := eq_true c4
  have c4b1 : decide (((⟨#[110, 101, 116, 32]⟩ : ByteArray) ++ t225).size + 1 ≤ 9223372036854775807) = true := decide_eq_true c4
  try have c4b2 : (9223372036854775807 < ((⟨#[110, 101, 116, 32]⟩ : ByteArray) ++ t225).size + 1) = False := eq_false (Nat.not_lt.2 c4)
  try have c4b3 : (9223372036854775807 < 4 + t225.size + 1) = False := eq_false (Nat.not_lt.2 (by have q_ := c4; simp only [ByteArray.size_append, ByteArray.size_extract] at q_; first | exact q_ | (simp only [eq_iff_iff, iff_true, decide_eq_true_eq] at *; omega)))
  have H' := Aside0.mk H
  clear H
  go_enter Tryd.func28, Tryd.ntmps28
  go_wp2_with (first | ((with_reducible refine gate_dst (N := 1) rfl ?_); refine bx_ 1 #[.int .i64 a0_0, .slice A0_1 l0_1.length c0_1] 25 ?_; intro gb224 hg w5 hbox hb; have BK224 := Aside0.mk (hbox); have GW224 := Aside0.mk (zs_ hg (ne_ HB.out)); have GE224 := Aside0.mk (zs_ hg (ne_ HB.out)); replace HB := kB_ HB hb; clear hb hbox hg; obtain ⟨hcz6_0, hcz6_1, hfz6_0, hfz6_1⟩ := cz2_ BK224.out) | ((with_reducible refine gate_callee (f := 53) rfl ?_); refine gl_ (some 8) Tryd.func53 #[.int .i64 a0_0] ?_; (with_reducible refine (spec_l1Dec.calls k a0_0 t225 _ A2.out).mono ?_); rintro e w7 ⟨rfl, hb⟩; refine ⟨_, rfl, ?_⟩; replace BK224 := kb_ BK224 hb; replace HB := kB_ HB hb; (try clear hb); (try clear hb2); (try clear hk); (try clear hi)))
  go_loopg [3, 4] k (fun kq v3 v4 w' => ∃ (x3_1 : ByteArray) (x4_1 : Int), v3 = .string x3_1 ∧ v4 = .int .i64 x4_1 ∧ Aside0 (spec_l1Put.l0 kq x3_1 x4_1 a0_0 l0_1 = some r) ∧ Aside0 (kq ≤ k) ∧ Aside0 (w'.heap[gb224]? = some (.cells #[.int .i64 a0_0, (.slice A0_1 l0_1.length c0_1)] 25 (0, 0))) ∧ Aside0 (Below w.heap.size w w'))
  case atStart => exact ⟨(((⟨#[110, 101, 116, 32]⟩ : ByteArray) ++ t225) ++ (⟨#[10]⟩ : ByteArray)), (0), ns_, ns_, H', ⟨Nat.le_refl _⟩, ⟨nb_ BK224.out⟩, ⟨ne_ HB.out⟩⟩
  case round =>
   clear H'
   try clear c3
   try clear c3b0
   try clear c3b1
   try clear c3b2
   try clear c4
   try clear c4b0
   try clear c4b1
   try clear c4b2
   try clear c4b3
   try clear hcz6_0
   try clear hcz6_1
   try clear hfz6_0
   try clear hfz6_1
   obtain ⟨x3_1, x4_1, rfl, rfl, HA, HK1, BK224, HB⟩ := hrel
   cases gk with
   | zero => exact absurd HA.out (by simp [spec_l1Put.l0])
   | succ k1 =>
    have H := HA.out
    clear HA
    simp only [spec_l1Put.l0] at H
    by_cases c8 : x4_1 < (l0_1.length : Int)
    rotate_left
    ·rw [if_neg c8] at H
     have c8b0 : decide (x4_1 < (l0_1.length : Int)) = false := decide_eq_false c8
     clear c8
     obtain rfl := Option.some.inj H
     obtain ⟨hcz36_0, hcz36_1, hfz36_0, hfz36_1⟩ := cz2_ BK224.out
     go_wp2
     go_ret
     exact ⟨nw_, ne_ HB.out⟩
    rw [if_pos c8] at H
    have c8b0 : decide (x4_1 < (l0_1.length : Int)) = true := decide_eq_true c8
    clear c8
    by_cases c9 : 0 ≤ x4_1
    rotate_left
    ·rw [if_neg c9] at H
     exact absurd H (by simp)
    rw [if_pos c9] at H
    have c9b0 : decide (0 ≤ x4_1) = true := decide_eq_true c9
    clear c9
    replace H := Option.bind_eq_some_iff.mp H
    obtain ⟨t228, A100, H⟩ := H
    try dsimp only at H
    have A10 := Aside0.mk A100
    clear A100
    by_cases c11 : x3_1.size + t228.size ≤ 9223372036854775807
    rotate_left
    ·rw [if_neg c11] at H
     exact absurd H (by simp)
    rw [if_pos c11] at H
    have c11b0 := eq_true c11
    have c11b1 : decide (x3_1.size + t228.size ≤ 9223372036854775807) = true := decide_eq_true c11
    try have c11b2 : (9223372036854775807 < x3_1.size + t228.size) = False := eq_false (Nat.not_lt.2 c11)
    by_cases c12 : (x3_1 ++ t228).size + 1 ≤ 9223372036854775807
    rotate_left
    ·rw [if_neg c12] at H
     exact absurd H (by simp)
    rw [if_pos c12] at H
    have c12b0 := eq_true c12
    have c12b1 : decide ((x3_1 ++ t228).size + 1 ≤ 9223372036854775807) = true := decide_eq_true c12
    try have c12b2 : (9223372036854775807 < (x3_1 ++ t228).size + 1) = False := eq_false (Nat.not_lt.2 c12)
    try have c12b3 : (9223372036854775807 < x3_1.size + t228.size + 1) = False := eq_false (Nat.not_lt.2 (by have q_ := c12; simp only [ByteArray.size_append, ByteArray.size_extract] at q_; first | exact q_ | (simp only [eq_iff_iff, iff_true, decide_eq_true_eq] at *; omega)))
    replace H := Option.bind_eq_some_iff.mp H
    obtain ⟨t229, A130, H⟩ := H
    try dsimp only at H
    have A13 := Aside0.mk A130
    clear A130
    by_cases c14 : ((x3_1 ++ t228) ++ (⟨#[32]⟩ : ByteArray)).size + t229.size ≤ 9223372036854775807
    rotate_left
    ·rw [if_neg c14] at H
     exact absurd H (by simp)
    rw [if_pos c14] at H
    have c14b0 := eq_true c14
    have c14b1 : decide (((x3_1 ++ t228) ++ (⟨#[32]⟩ : ByteArray)).size + t229.size ≤ 9223372036854775807) = true := decide_eq_true c14
    try have c14b2 : (9223372036854775807 < ((x3_1 ++ t228) ++ (⟨#[32]⟩ : ByteArray)).size + t229.size) = False := eq_false (Nat.not_lt.2 c14)
    try have c14b3 : (9223372036854775807 < x3_1.size + t228.size + 1 + t229.size) = False := eq_false (Nat.not_lt.2 (by have q_ := c14; simp only [ByteArray.size_append, ByteArray.size_extract] at q_; first | exact q_ | (simp only [eq_iff_iff, iff_true, decide_eq_true_eq] at *; omega)))
    by_cases c15 : (((x3_1 ++ t228) ++ (⟨#[32]⟩ : ByteArray)) ++ t229).size + 1 ≤ 9223372036854775807
    rotate_left
    ·rw [if_neg c15] at H
     exact absurd H (by simp)
    rw [if_pos c15] at H
    have c15b0 := eq_true c15
    have c15b1 : decide ((((x3_1 ++ t228) ++ (⟨#[32]⟩ : ByteArray)) ++ t229).size + 1 ≤ 9223372036854775807) = true := decide_eq_true c15
    try have c15b2 : (9223372036854775807 < (((x3_1 ++ t228) ++ (⟨#[32]⟩ : ByteArray)) ++ t229).size + 1) = False := eq_false (Nat.not_lt.2 c15)
    try have c15b3 : (9223372036854775807 < x3_1.size + t228.size + 1 + t229.size + 1) = False := eq_false (Nat.not_lt.2 (by have q_ := c15; simp only [ByteArray.size_append, ByteArray.size_extract] at q_; first | exact q_ | (simp only [eq_iff_iff, iff_true, decide_eq_true_eq] at *; omega)))
    replace H := Option.bind_eq_some_iff.mp H
    obtain ⟨t230, A160, H⟩ := H
    try dsimp only at H
    have A16 := Aside0.mk A160
    clear A160
    by_cases c17 : ((((x3_1 ++ t228) ++ (⟨#[32]⟩ : ByteArray)) ++ t229) ++ (⟨#[32]⟩ : ByteArray)).size + t230.size ≤ 9223372036854775807
    rotate_left
    ·rw [if_neg c17] at H
     exact absurd H (by simp)
    rw [if_pos c17] at H
    have c17b0 := eq_true c17
    have c17b1 : decide (((((x3_1 ++ t228) ++ (⟨#[32]⟩ : ByteArray)) ++ t229) ++ (⟨#[32]⟩ : ByteArray)).size + t230.size ≤ 9223372036854775807) = true := decide_eq_true c17
    try have c17b2 : (9223372036854775807 < ((((x3_1 ++ t228) ++ (⟨#[32]⟩ : ByteArray)) ++ t229) ++ (⟨#[32]⟩ : ByteArray)).size + t230.size) = False := eq_false (Nat.not_lt.2 c17)
    try have c17b3 : (9223372036854775807 < x3_1.size + t228.size + 1 + t229.size + 1 + t230.size) = False := eq_false (Nat.not_lt.2 (by have q_ := c17; simp only [ByteArray.size_append, ByteArray.size_extract] at q_; first | exact q_ | (simp only [eq_iff_iff, iff_true, decide_eq_true_eq] at *; omega)))
    by_cases c18 : (((((x3_1 ++ t228) ++ (⟨#[32]⟩ : ByteArray)) ++ t229) ++ (⟨#[32]⟩ : ByteArray)) ++ t230).size + 1 ≤ 9223372036854775807
    rotate_left
    ·rw [if_neg c18] at H
     exact absurd H (by simp)
    rw [if_pos c18] at H
    have c18b0 := eq_true c18
    have c18b1 : decide ((((((x3_1 ++ t228) ++ (⟨#[32]⟩ : ByteArray)) ++ t229) ++ (⟨#[32]⟩ : ByteArray)) ++ t230).size + 1 ≤ 9223372036854775807) = true := decide_eq_true c18
    try have c18b2 : (9223372036854775807 < (((((x3_1 ++ t228) ++ (⟨#[32]⟩ : ByteArray)) ++ t229) ++ (⟨#[32]⟩ : ByteArray)) ++ t230).size + 1) = False := eq_false (Nat.not_lt.2 c18)
    try have c18b3 : (9223372036854775807 < x3_1.size + t228.size + 1 + t229.size + 1 + t230.size + 1) = False := eq_false (Nat.not_lt.2 (by have q_ := c18; simp only [ByteArray.size_append, ByteArray.size_extract] at q_; first | exact q_ | (simp only [eq_iff_iff, iff_true, decide_eq_true_eq] at *; omega)))
    replace H := Option.bind_eq_some_iff.mp H
    obtain ⟨t231, A190, H⟩ := H
    try dsimp only at H
    have A19 := Aside0.mk A190
    clear A190
    by_cases c20 : ((((((x3_1 ++ t228) ++ (⟨#[32]⟩ : ByteArray)) ++ t229) ++ (⟨#[32]⟩ : ByteArray)) ++ t230) ++ (⟨#[32]⟩ : ByteArray)).size + t231.size ≤ 9223372036854775807
    rotate_left
    ·rw [if_neg c20] at H
     exact absurd H (by simp)
    rw [if_pos c20] at H
    have c20b0 := eq_true c20
    have c20b1 : decide (((((((x3_1 ++ t228) ++ (⟨#[32]⟩ : ByteArray)) ++ t229) ++ (⟨#[32]⟩ : ByteArray)) ++ t230) ++ (⟨#[32]⟩ : ByteArray)).size + t231.size ≤ 9223372036854775807) = true := decide_eq_true c20
    try have c20b2 : (9223372036854775807 < ((((((x3_1 ++ t228) ++ (⟨#[32]⟩ : ByteArray)) ++ t229) ++ (⟨#[32]⟩ : ByteArray)) ++ t230) ++ (⟨#[32]⟩ : ByteArray)).size + t231.size) = False := eq_false (Nat.not_lt.2 c20)
    try have c20b3 : (9223372036854775807 < x3_1.size + t228.size + 1 + t229.size + 1 + t230.size + 1 + t231.size) = False := eq_false (Nat.not_lt.2 (by have q_ := c20; simp only [ByteArray.size_append, ByteArray.size_extract] at q_; first | exact q_ | (simp only [eq_iff_iff, iff_true, decide_eq_true_eq] at *; omega)))
    by_cases c21 : (((((((x3_1 ++ t228) ++ (⟨#[32]⟩ : ByteArray)) ++ t229) ++ (⟨#[32]⟩ : ByteArray)) ++ t230) ++ (⟨#[32]⟩ : ByteArray)) ++ t231).size + 1 ≤ 9223372036854775807
    rotate_left
    ·rw [if_neg c21] at H
     exact absurd H (by simp)
    rw [if_pos c21] at H
    have c21b0 := eq_true c21
    have c21b1 : decide ((((((((x3_1 ++ t228) ++ (⟨#[32]⟩ : ByteArray)) ++ t229) ++ (⟨#[32]⟩ : ByteArray)) ++ t230) ++ (⟨#[32]⟩ : ByteArray)) ++ t231).size + 1 ≤ 9223372036854775807) = true := decide_eq_true c21
    try have c21b2 : (9223372036854775807 < (((((((x3_1 ++ t228) ++ (⟨#[32]⟩ : ByteArray)) ++ t229) ++ (⟨#[32]⟩ : ByteArray)) ++ t230) ++ (⟨#[32]⟩ : ByteArray)) ++ t231).size + 1) = False := eq_false (Nat.not_lt.2 c21)
    try have c21b3 : (9223372036854775807 < x3_1.size + t228.size + 1 + t229.size + 1 + t230.size + 1 + t231.size + 1) = False := eq_false (Nat.not_lt.2 (by have q_ := c21; simp only [ByteArray.size_append, ByteArray.size_extract] at q_; first | exact q_ | (simp only [eq_iff_iff, iff_true, decide_eq_true_eq] at *; omega)))
    replace H := Option.bind_eq_some_iff.mp H
    obtain ⟨t232, A220, H⟩ := H
    try dsimp only at H
    have A22 := Aside0.mk A220
    clear A220
    by_cases c23 : ((((((((x3_1 ++ t228) ++ (⟨#[32]⟩ : ByteArray)) ++ t229) ++ (⟨#[32]⟩ : ByteArray)) ++ t230) ++ (⟨#[32]⟩ : ByteArray)) ++ t231) ++ (⟨#[32]⟩ : ByteArray)).size + t232.size ≤ 9223372036854775807
    rotate_left
    ·rw [if_neg c23] at H
     exact absurd H (by simp)
    rw [if_pos c23] at H
    have c23b0 := eq_true c23
    have c23b1 : decide (((((((((x3_1 ++ t228) ++ (⟨#[32]⟩ : ByteArray)) ++ t229) ++ (⟨#[32]⟩ : ByteArray)) ++ t230) ++ (⟨#[32]⟩ : ByteArray)) ++ t231) ++ (⟨#[32]⟩ : ByteArray)).size + t232.size ≤ 9223372036854775807) = true := decide_eq_true c23
    try have c23b2 : (9223372036854775807 < ((((((((x3_1 ++ t228) ++ (⟨#[32]⟩ : ByteArray)) ++ t229) ++ (⟨#[32]⟩ : ByteArray)) ++ t230) ++ (⟨#[32]⟩ : ByteArray)) ++ t231) ++ (⟨#[32]⟩ : ByteArray)).size + t232.size) = False := eq_false (Nat.not_lt.2 c23)
    try have c23b3 : (9223372036854775807 < x3_1.size + t228.size + 1 + t229.size + 1 + t230.size + 1 + t231.size + 1 + t232.size) = False := eq_false (Nat.not_lt.2 (by have q_ := c23; simp only [ByteArray.size_append, ByteArray.size_extract] at q_; first | exact q_ | (simp only [eq_iff_iff, iff_true, decide_eq_true_eq] at *; omega)))
    by_cases c24 : (((((((((x3_1 ++ t228) ++ (⟨#[32]⟩ : ByteArray)) ++ t229) ++ (⟨#[32]⟩ : ByteArray)) ++ t230) ++ (⟨#[32]⟩ : ByteArray)) ++ t231) ++ (⟨#[32]⟩ : ByteArray)) ++ t232).size + 1 ≤ 9223372036854775807
    rotate_left
    ·rw [if_neg c24] at H
     exact absurd H (by simp)
    rw [if_pos c24] at H
    have c24b0 := eq_true c24
    have c24b1 : decide ((((((((((x3_1 ++ t228) ++ (⟨#[32]⟩ : ByteArray)) ++ t229) ++ (⟨#[32]⟩ : ByteArray)) ++ t230) ++ (⟨#[32]⟩ : ByteArray)) ++ t231) ++ (⟨#[32]⟩ : ByteArray)) ++ t232).size + 1 ≤ 9223372036854775807) = true := decide_eq_true c24
    try have c24b2 : (9223372036854775807 < (((((((((x3_1 ++ t228) ++ (⟨#[32]⟩ : ByteArray)) ++ t229) ++ (⟨#[32]⟩ : ByteArray)) ++ t230) ++ (⟨#[32]⟩ : ByteArray)) ++ t231) ++ (⟨#[32]⟩ : ByteArray)) ++ t232).size + 1) = False := eq_false (Nat.not_lt.2 c24)
    try have c24b3 : (9223372036854775807 < x3_1.size + t228.size + 1 + t229.size + 1 + t230.size + 1 + t231.size + 1 + t232.size + 1) = False := eq_false (Nat.not_lt.2 (by have q_ := c24; simp only [ByteArray.size_append, ByteArray.size_extract] at q_; first | exact q_ | (simp only [eq_iff_iff, iff_true, decide_eq_true_eq] at *; omega)))
    have H' := Aside0.mk H
    clear H
    obtain ⟨hcz25_0, hcz25_1, hfz25_0, hfz25_1⟩ := cz2_ BK224.out
    have p226 : 0 ≤ (x4_1 : Int) := of_decide_eq_true nx_
    have q226 : x4_1 < (l0_1.length : Int) := of_decide_eq_true nx_
    obtain ⟨ad226, e226, hx226_0, hx226_1, hx226_2, hx226_3, hx226_4⟩ := at_T54 HR0_1.out x4_1 p226 q226
    cases e226
    replace hx226_0 := hb_ HB.out hx226_0
    replace hx226_1 := hb_ HB.out hx226_1
    replace hx226_2 := hb_ HB.out hx226_2
    replace hx226_3 := hb_ HB.out hx226_3
    replace hx226_4 := hb_ HB.out hx226_4
    replace p226 := eq_true p226
    replace q226 := eq_true q226
    try go_wp2_with (first | ((with_reducible refine gate_dst (N := 5) rfl ?_); refine bx_ 5 #[.int .i64 0, .int .i64 0, .int .i64 0, .int .i64 0, .int .i64 0] 54 ?_; intro gb227 hg w26 hbox hb; have BK227 := Aside0.mk (hbox); have GW227 := Aside0.mk (zs_ hg (ne_ HB.out)); have GE227 := Aside0.mk (zs_ hg (ne_ HB.out)); have NB224_227 := Aside0.mk (nl_ BK224.out hg); have NB227_224 := Aside0.mk (nm_ BK224.out hg); replace BK224 := kb_ BK224 hb; replace HB := kB_ HB hb; clear hb hbox hg; have hnb27 := NB227_224.out; have hnc27 := NB224_227.out; obtain ⟨hcz28_0, hcz28_1, hcz28_2, hcz28_3, hcz28_4, hfz28_0, hfz28_1, hfz28_2, hfz28_3, hfz28_4⟩ := cz5_ BK227.out))
    have n0_ : Aside0 ((((((w26.setCell ⟨gb227, 0, none⟩ (.int .i64 ((rd_T54 l0_1 x4_1).f0))).setCell ⟨gb227, 1, none⟩ (.int .i64 ((rd_T54 l0_1 x4_1).f1))).setCell ⟨gb227, 2, none⟩ (.int .i64 ((rd_T54 l0_1 x4_1).f2))).setCell ⟨gb227, 3, none⟩ (.int .i64 ((rd_T54 l0_1 x4_1).f3))).setCell ⟨gb227, 4, none⟩ (.int .i64 ((rd_T54 l0_1 x4_1).f4))).heap[gb224]? = some (.cells #[.int .i64 a0_0, .slice (some ad226) l0_1.length c0_1] 25 (0, 0))) := ⟨np_ BK224.out⟩
    have n1_ : Aside0 ((((((w26.setCell ⟨gb227, 0, none⟩ (.int .i64 ((rd_T54 l0_1 x4_1).f0))).setCell ⟨gb227, 1, none⟩ (.int .i64 ((rd_T54 l0_1 x4_1).f1))).setCell ⟨gb227, 2, none⟩ (.int .i64 ((rd_T54 l0_1 x4_1).f2))).setCell ⟨gb227, 3, none⟩ (.int .i64 ((rd_T54 l0_1 x4_1).f3))).setCell ⟨gb227, 4, none⟩ (.int .i64 ((rd_T54 l0_1 x4_1).f4))).heap[gb227]? = some (.cells #[.int .i64 ((rd_T54 l0_1 x4_1).f0), .int .i64 ((rd_T54 l0_1 x4_1).f1), .int .i64 ((rd_T54 l0_1 x4_1).f2), .int .i64 ((rd_T54 l0_1 x4_1).f3), .int .i64 ((rd_T54 l0_1 x4_1).f4)] 54 (0, 0))) := ⟨np_ BK227.out⟩
    have n2_ : Aside0 (Below w.heap.size w (((((w26.setCell ⟨gb227, 0, none⟩ (.int .i64 ((rd_T54 l0_1 x4_1).f0))).setCell ⟨gb227, 1, none⟩ (.int .i64 ((rd_T54 l0_1 x4_1).f1))).setCell ⟨gb227, 2, none⟩ (.int .i64 ((rd_T54 l0_1 x4_1).f2))).setCell ⟨gb227, 3, none⟩ (.int .i64 ((rd_T54 l0_1 x4_1).f3))).setCell ⟨gb227, 4, none⟩ (.int .i64 ((rd_T54 l0_1 x4_1).f4)))) := ⟨ne_ HB.out⟩
    (try clear BK224)
    (try clear BK227)
    (try clear HB)
    generalize (((((w26.setCell ⟨gb227, 0, none⟩ (.int .i64 ((rd_T54 l0_1 x4_1).f0))).setCell ⟨gb227, 1, none⟩ (.int .i64 ((rd_T54 l0_1 x4_1).f1))).setCell ⟨gb227, 2, none⟩ (.int .i64 ((rd_T54 l0_1 x4_1).f2))).setCell ⟨gb227, 3, none⟩ (.int .i64 ((rd_T54 l0_1 x4_1).f3))).setCell ⟨gb227, 4, none⟩ (.int .i64 ((rd_T54 l0_1 x4_1).f4))) = w29 at n0_ n1_ n2_ ⊢
    have BK224 := n0_
    have BK227 := n1_
    have HB := n2_
    clear n0_ n1_ n2_
    replace BK224 := Aside0.mk (blk_drew BK224.out)
    replace BK227 := Aside0.mk (blk_drew BK227.out)
    replace HB := Aside0.mk (below_drew1 HB.out)
    refine start_ (n := 27) (S := fun w' => w'.cell? ⟨gb227, 0, none⟩ = some (.int .i64 ((rd_T54 l0_1 x4_1).f0)) ∧ w'.cell? ⟨gb227, 1, none⟩ = some (.int .i64 ((rd_T54 l0_1 x4_1).f1)) ∧ w'.cell? ⟨gb227, 2, none⟩ = some (.int .i64 ((rd_T54 l0_1 x4_1).f2)) ∧ w'.cell? ⟨gb227, 3, none⟩ = some (.int .i64 ((rd_T54 l0_1 x4_1).f3)) ∧ w'.cell? ⟨gb227, 4, none⟩ = some (.int .i64 ((rd_T54 l0_1 x4_1).f4))) (ds := []) (bm_ 27 0) (by kernel_rfl) rfl rfl ⟨ct_ BK227.out 0, ct_ BK227.out 1, ct_ BK227.out 2, ct_ BK227.out 3, ct_ BK227.out 4⟩ (fun hHeld => ?_); refine with_tabW spec_l1Put.tab6 spec_l1Put.bits6 (fun HT_ HW_ => ?_)
    generalize w29.drew = w30 at BK224 BK227 HB hHeld ⊢
    refine pu_ 0 23 (bm_ 27 1) HT_.out ?_
    refine pu_ 1 24 (bm_ 27 3) HT_.out ?_
    refine pu_ 6 29 (bm_ 27 67) HT_.out ?_
    refine pu_ 11 34 (bm_ 27 2115) HT_.out ?_
    refine pu_ 16 39 (bm_ 27 67651) HT_.out ?_
    refine pu_ 21 44 (bm_ 27 2164803) HT_.out ?_
    refine tk_ 2 25 (bm_ 27 2164807) HT_.out HW_.out hHeld ?_
    refine tk_ 7 30 (bm_ 27 2164935) HT_.out HW_.out hHeld ?_
    refine tk_ 12 35 (bm_ 27 2169031) HT_.out HW_.out hHeld ?_
    refine tk_ 17 40 (bm_ 27 2300103) HT_.out HW_.out hHeld ?_
    refine tk_ 22 45 (bm_ 27 6494407) HT_.out HW_.out hHeld ?_
    refine one_ (i := 3) (N := some 26) (bm_ 27 6494415) rfl rfl (one_of HT_.out (by kernel_rfl)) (by decide) (fun K hK => ?_)
    refine go_ Tryd.func53 #[.int .i64 ((rd_T54 l0_1 x4_1).f0)] ?_
    with_reducible refine (spec_l1Dec.calls k1 ((rd_T54 l0_1 x4_1).f0) t228 _ A10.out).mono ?_
    rintro e w31 ⟨rfl, hb⟩
    refine ⟨_, rfl, ?_⟩
    replace BK224 := kb_ BK224 hb
    replace BK227 := kb_ BK227 hb
    replace HB := kB_ HB hb
    (try clear hb)
    (try clear hb2)
    (try clear hk)
    (try clear hi)
    refine hK.out _ _ ⟨ct_ BK227.out 0, ct_ BK227.out 1, ct_ BK227.out 2, ct_ BK227.out 3, ct_ BK227.out 4⟩ (fun hHeld => ?_)
    clear hK K
    refine nm1_ (some 26) ?_
    refine pu_ 4 27 (bm_ 27 6494431) HT_.out ?_
    refine pu_ 5 28 (bm_ 27 6494463) HT_.out ?_
    refine one_ (i := 8) (N := some 31) (bm_ 27 6494719) rfl rfl (one_of HT_.out (by kernel_rfl)) (by decide) (fun K hK => ?_)
    refine go_ Tryd.func53 #[.int .i64 ((rd_T54 l0_1 x4_1).f1)] ?_
    with_reducible refine (spec_l1Dec.calls k1 ((rd_T54 l0_1 x4_1).f1) t229 _ A13.out).mono ?_
    rintro e w32 ⟨rfl, hb⟩
    refine ⟨_, rfl, ?_⟩
    replace BK224 := kb_ BK224 hb
    replace BK227 := kb_ BK227 hb
    replace HB := kB_ HB hb
    (try clear hb)
    (try clear hb2)
    (try clear hk)
    (try clear hi)
    refine hK.out _ _ ⟨ct_ BK227.out 0, ct_ BK227.out 1, ct_ BK227.out 2, ct_ BK227.out 3, ct_ BK227.out 4⟩ (fun hHeld => ?_)
    clear hK K
    refine nm1_ (some 31) ?_
    refine pu_ 9 32 (bm_ 27 6495231) HT_.out ?_
    refine pu_ 10 33 (bm_ 27 6496255) HT_.out ?_
    refine one_ (i := 13) (N := some 36) (bm_ 27 6504447) rfl rfl (one_of HT_.out (by kernel_rfl)) (by decide) (fun K hK => ?_)
    refine go_ Tryd.func53 #[.int .i64 ((rd_T54 l0_1 x4_1).f2)] ?_
    with_reducible refine (spec_l1Dec.calls k1 ((rd_T54 l0_1 x4_1).f2) t230 _ A16.out).mono ?_
    rintro e w33 ⟨rfl, hb⟩
    refine ⟨_, rfl, ?_⟩
    replace BK224 := kb_ BK224 hb
    replace BK227 := kb_ BK227 hb
    replace HB := kB_ HB hb
    (try clear hb)
    (try clear hb2)
    (try clear hk)
    (try clear hi)
    refine hK.out _ _ ⟨ct_ BK227.out 0, ct_ BK227.out 1, ct_ BK227.out 2, ct_ BK227.out 3, ct_ BK227.out 4⟩ (fun hHeld => ?_)
    clear hK K
    refine nm1_ (some 36) ?_
    refine pu_ 14 37 (bm_ 27 6520831) HT_.out ?_
    refine pu_ 15 38 (bm_ 27 6553599) HT_.out ?_
    refine one_ (i := 18) (N := some 41) (bm_ 27 6815743) rfl rfl (one_of HT_.out (by kernel_rfl)) (by decide) (fun K hK => ?_)
    refine go_ Tryd.func53 #[.int .i64 ((rd_T54 l0_1 x4_1).f3)] ?_
    with_reducible refine (spec_l1Dec.calls k1 ((rd_T54 l0_1 x4_1).f3) t231 _ A19.out).mono ?_
    rintro e w34 ⟨rfl, hb⟩
    refine ⟨_, rfl, ?_⟩
    replace BK224 := kb_ BK224 hb
    replace BK227 := kb_ BK227 hb
    replace HB := kB_ HB hb
    (try clear hb)
    (try clear hb2)
    (try clear hk)
    (try clear hi)
    refine hK.out _ _ ⟨ct_ BK227.out 0, ct_ BK227.out 1, ct_ BK227.out 2, ct_ BK227.out 3, ct_ BK227.out 4⟩ (fun hHeld => ?_)
    clear hK K
    refine nm1_ (some 41) ?_
    refine pu_ 19 42 (bm_ 27 7340031) HT_.out ?_
    refine pu_ 20 43 (bm_ 27 8388607) HT_.out ?_
    refine one_ (i := 23) (N := some 46) (bm_ 27 16777215) rfl rfl (one_of HT_.out (by kernel_rfl)) (by decide) (fun K hK => ?_)
    refine go_ Tryd.func53 #[.int .i64 ((rd_T54 l0_1 x4_1).f4)] ?_
    with_reducible refine (spec_l1Dec.calls k1 ((rd_T54 l0_1 x4_1).f4) t232 _ A22.out).mono ?_
    rintro e w35 ⟨rfl, hb⟩
    refine ⟨_, rfl, ?_⟩
    replace BK224 := kb_ BK224 hb
    replace BK227 := kb_ BK227 hb
    replace HB := kB_ HB hb
    (try clear hb)
    (try clear hb2)
    (try clear hk)
    (try clear hi)
    refine hK.out _ _ ⟨ct_ BK227.out 0, ct_ BK227.out 1, ct_ BK227.out 2, ct_ BK227.out 3, ct_ BK227.out 4⟩ (fun hHeld => ?_)
    clear hK K
    refine nm1_ (some 46) ?_
    refine pu_ 24 47 (bm_ 27 33554431) HT_.out ?_
    refine pu_ 25 48 (bm_ 27 67108863) HT_.out ?_
    refine pu_ 26 3 (bm_ 27 134217727) HT_.out ?_
    refine done_ (done_of HT_.out (by kernel_rfl)) ?_
    try go_wp2
    go_roundg k1
    case measure => have := HK1.out; omega
    case rel => exact ⟨((((((((((x3_1 ++ t228) ++ (⟨#[32]⟩ : ByteArray)) ++ t229) ++ (⟨#[32]⟩ : ByteArray)) ++ t230) ++ (⟨#[32]⟩ : ByteArray)) ++ t231) ++ (⟨#[32]⟩ : ByteArray)) ++ t232) ++ (⟨#[10]⟩ : ByteArray)), (wrap64 (x4_1 + 1)), ns_, ns_, H', ⟨by have := HK1.out; omega⟩, ⟨nb_ BK224.out⟩, ⟨ne_ HB.out⟩⟩
end Go.Proofs.YtppjelkljihdoaaDoor.Print
