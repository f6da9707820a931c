-- Made by this session's own program (wip/patch_print.py, over the kit's print). Lean checks it.
import Derived.Test.YtfpfaaibgaejjaaPrint0
import Derived.Shelf.Abstract
import Derived.Shelf.SlSortCmp.NoneTotal
namespace Go.Proofs.Ytfpfaaibgaejjaa.Print
open Go.RowKit Go.Proofs.YtfpfaaibgaejjaaW.PrintWords Go.Proofs.YtfpfaaibgaejjaaW.PrintLast Go.Proofs.YtfpfaaibgaejjaaW.PrintMore Go.Proofs.YtfpfaaibgaejjaaX
attribute [local go_sem] max2_int min2_int max_two min_two max_three min_three max_four min_four   -- for this text's walks alone
set_option linter.unusedVariables false
set_option linter.unusedSimpArgs false

/-! ### impl_Step_51: function 51 -/
/-- cmp.Compare of whole numbers. -/
def so_cmp (a b : Int) : Int := if a < b then -1 else if a > b then 1 else 0
set_option maxHeartbeats 2000000 in
theorem so_compare (a b : Int) (W : World) : Calls Try.prog 54 #[.int .i64 a, .int .i64 b] W fun e w' => e = .returned (.int .i64 (so_cmp a b)) ∧ ∃ q, w' = W.drewN q := by
  go_enter Try.func54, Try.ntmps54
  go_wp2
  all_goals
    go_ret
    refine ⟨?_, ?_⟩
    · unfold so_cmp
      first | (simp [*]; done) | (simp_all; done) | (split <;> first | rfl | (split <;> first | rfl | omega) | omega)
    · first | exact ⟨0, rfl⟩ | exact ⟨1, rfl⟩ | exact ⟨2, rfl⟩ | exact ⟨3, rfl⟩
/-! cmp.Or -/
def cmp_Or_int.l0 : Nat → Int → List Int → Int → Int → Option (Int)
  | 0, _, _, _, _ => none
  | k + 1, x3, x6, x7, x8 => if x8 < x7 then (if 0 ≤ x8 then (if x8 < (x6.length : Int) then (if (rd x6 x8) = x3 then (cmp_Or_int.l0 k x3 x6 x7 (wrap64 (x8 + 1))) else (some (rd x6 x8))) else (none)) else (none)) else (some x3)
def cmp_Or_int.f (k : Nat) (l0 : List Int) : Option (Int) := cmp_Or_int.l0 k 0 l0 (l0.length : Int) 0
theorem cmp_Or_int.mono_l : ∀ k, (∀ y0 y1 y2 y3, LeO (cmp_Or_int.l0 k y0 y1 y2 y3) (cmp_Or_int.l0 (k + 1) y0 y1 y2 y3))
  | 0 => fun _ _ _ _ r h => by simp [cmp_Or_int.l0] at h
  | k + 1 => by
    have ih0 := cmp_Or_int.mono_l k
    · intro y0 y1 y2 y3
      unfold cmp_Or_int.l0
      repeat' first | (with_reducible first | exact ih0 _ _ _ _ | exact LeO.refl _ | exact LeO.none _ | refine LeO.ite ?_ ?_ | refine LeO.bind ?_ (fun _ => ?_)) | exact ih0 _ _ _ _ | exact LeO.none _ | refine LeO.ite ?_ ?_ | refine LeO.bind ?_ (fun _ => ?_)
theorem cmp_Or_int.mono : ∀ a0 k, LeO (cmp_Or_int.f k a0) (cmp_Or_int.f (k + 1) a0) := by
  intro a0 k
  have ih0 := cmp_Or_int.mono_l k
  unfold cmp_Or_int.f
  repeat' first | (with_reducible first | exact ih0 _ _ _ _ | exact LeO.refl _ | exact LeO.none _ | refine LeO.ite ?_ ?_ | refine LeO.bind ?_ (fun _ => ?_)) | exact ih0 _ _ _ _ | exact LeO.none _ | refine LeO.ite ?_ ?_ | refine LeO.bind ?_ (fun _ => ?_)
set_option maxHeartbeats 200000000 in
set_option maxRecDepth 100000 in
theorem cmp_Or_int.calls (k : Nat) (A0 : Option Addr) (c0 : Nat) (l0 : List Int) (r : Int) (w : World) (hr0 : Kd.C (Kd.int .i64) w A0 l0.length l0) (hc0 : l0.length ≤ c0) (h : cmp_Or_int.f k l0 = some r) :
    Calls Try.prog 53 #[.slice A0 l0.length c0] w fun e w' => e = .returned (.int .i64 r) ∧ Drawn0 w w' := by
  have HR0 := Aside0.mk hr0
  have HC0 := Aside0.mk hc0
  clear hr0 hc0
  have H : (cmp_Or_int.l0 k 0 l0 (l0.length : Int) 0) = some r := h
  clear h
  have H' := Aside0.mk H
  clear H
  go_enter Try.func53, Try.ntmps53
  go_wp2
  go_loopg [8] k (fun kq v8 w' => ∃ (x8_1 : Int), v8 = .int .i64 x8_1 ∧ Aside0 (cmp_Or_int.l0 kq 0 l0 (l0.length : Int) x8_1 = some r) ∧ Aside0 (kq ≤ k) ∧ Drawn0 w w')
  case atStart => exact ⟨(0), ns_, H', ⟨Nat.le_refl _⟩, by repeat (first | exact Drawn0.refl _ | apply Drawn0.step)⟩
  case round =>
   clear H'
   obtain ⟨x8_1, rfl, HA, HK1, ⟨m1, rfl⟩⟩ := hrel
   cases gk with
   | zero => exact absurd HA.out (by simp [cmp_Or_int.l0])
   | succ k1 =>
    have H := HA.out
    clear HA
    simp only [cmp_Or_int.l0] at H
    by_cases c2 : x8_1 < (l0.length : Int)
    rotate_left
    ·rw [if_neg c2] at H
     have c2b0 : decide (x8_1 < (l0.length : Int)) = false := decide_eq_false c2
     clear c2
     obtain rfl := Option.some.inj H
     go_wp2
     go_ret
     exact ⟨by first | rfl | (simp; done) | (simp [*]; done) | (simp [*]; exact Option.some.inj (Eq.trans (Eq.symm (Aside0.out (by assumption))) (Aside0.out (by assumption)))), by repeat (first | exact Drawn0.refl _ | apply Drawn0.step)⟩

    rw [if_pos c2] at H
    have c2b0 : decide (x8_1 < (l0.length : Int)) = true := decide_eq_true c2
    clear c2
    by_cases c3 : 0 ≤ x8_1
    rotate_left
    ·rw [if_neg c3] at H
     exact absurd H (by simp)
    rw [if_pos c3] at H
    have c3b0 : decide (0 ≤ x8_1) = true := decide_eq_true c3
    clear c3
    by_cases c4 : x8_1 < (l0.length : Int)
    rotate_left
    ·rw [if_neg c4] at H
     exact absurd H (by simp)
    rw [if_pos c4] at H
    have c4b0 : decide (x8_1 < (l0.length : Int)) = true := decide_eq_true c4
    clear c4
    by_cases c5 : (rd l0 x8_1) = 0
    ·rw [if_pos c5] at H
     have c5b0 : ((rd l0 x8_1) == 0) = true := beq_iff_eq.mpr c5
     have c5b1 : ((rd l0 x8_1) != 0) = false := bne_eq_false_iff_eq.mpr c5
     clear c5
     have H' := Aside0.mk H
     clear H
     have p101 : 0 ≤ (x8_1 : Int) := of_decide_eq_true nx_
     have q101 : x8_1 < (l0.length : Int) := of_decide_eq_true nx_
     obtain ⟨ad101, e101, hx101_0⟩ := Kd.at_int HR0.out x8_1 p101 q101
     cases e101
     replace p101 := eq_true p101
     replace q101 := eq_true q101
     go_wp2
     go_roundg k1
     case measure => have := HK1.out; omega
     case rel => exact ⟨(wrap64 (x8_1 + 1)), ns_, H', ⟨by have := HK1.out; omega⟩, by repeat (first | exact Drawn0.refl _ | apply Drawn0.step)⟩
    rw [if_neg c5] at H
    have c5b0 : ((rd l0 x8_1) == 0) = false := beq_eq_false_iff_ne.mpr c5
    have c5b1 : ((rd l0 x8_1) != 0) = true := bne_iff_ne.mpr c5
    obtain rfl := Option.some.inj H
    have p101 : 0 ≤ (x8_1 : Int) := of_decide_eq_true nx_
    have q101 : x8_1 < (l0.length : Int) := of_decide_eq_true nx_
    obtain ⟨ad101, e101, hx101_0⟩ := Kd.at_int HR0.out x8_1 p101 q101
    cases e101
    replace p101 := eq_true p101
    replace q101 := eq_true q101
    go_wp2
    go_ret
    exact ⟨by first | rfl | (simp; done) | (simp [*]; done) | (simp [*]; exact Option.some.inj (Eq.trans (Eq.symm (Aside0.out (by assumption))) (Aside0.out (by assumption)))), by repeat (first | exact Drawn0.refl _ | apply Drawn0.step)⟩

theorem so_or (a b : Int) : cmp_Or_int.f 4 [a, b] = some (if a ≠ 0 then a else b) := by
  have w1 : wrap64 (0 + 1) = 1 := by unfold wrap64; omega
  have w2 : wrap64 (1 + 1) = 2 := by unfold wrap64; omega
  have r0 : rd [a, b] 0 = a := rfl
  have r1 : rd [a, b] 1 = b := rfl
  unfold cmp_Or_int.f
  simp only [cmp_Or_int.l0, w1, w2, r0, r1]
  by_cases ha : a = 0 <;> by_cases hb : b = 0 <;> simp [ha, hb]
/-- Two numbers laid as a row. -/
theorem so_ls {P : Program} {ops : Array Oper} {o : Oper} {a : Act} {Q : Exit → Act → World → Prop} {K : Act → World → Prop} {W : World} (N : Tmp) (t0 t1 : Int)
    (h : K (a.put o.dst (.slice (some ⟨W.heap.size, 0, none⟩) 2 2)) (W.alloc (.cells #[.int .i64 t0, .int .i64 t1] 3))) (hd : o.dst = some N := by rfl) (hg : Region.wanted o (yielded ops a.tmps) = true := by rfl)
    (hrun : (execOp a.eval o).run P W = .ok (.value (.slice (some ⟨W.heap.size, 0, none⟩) 2 2)) (W.alloc (.cells #[.int .i64 t0, .int .i64 t1] 3)) := by first | (go_simp; done) | (go_simp; rfl)) : if Region.wanted o (yielded ops a.tmps) = true then Oper.wp P o a W K Q else K (a.put o.dst undef) W := event_step hg hrun h
theorem so_C (W : World) (a b : Int) : Kd.C (Kd.int .i64) (W.alloc (.cells #[.int .i64 a, .int .i64 b] 3)) (some ⟨W.heap.size, 0, none⟩) 2 [a, b] := by
  have hb := blk_new W (.cells #[.int .i64 a, .int .i64 b] 3)
  refine ⟨rfl, by omega, fun _ => ⟨_, rfl, fun j p hj => ?_⟩⟩
  rcases j with _ | _ | j
  · obtain rfl := Option.some.inj hj
    refine ⟨[.int .i64 a], rfl, rfl, fun i u hi => ?_⟩
    rcases i with _ | i
    · obtain rfl := Option.some.inj hi; exact ct_ hb 0
    · simp at hi
  · obtain rfl := Option.some.inj hj
    refine ⟨[.int .i64 b], rfl, rfl, fun i u hi => ?_⟩
    rcases i with _ | i
    · obtain rfl := Option.some.inj hi; exact ct_ hb 1
    · simp at hi
  · simp at hj
/-- A world that has grown, and drawn. -/
def so_Gr (W w' : World) : Prop := ∃ q os', w' = Go.Sort.grow (W.drewN q) os'
theorem so_Gr.refl (W : World) : so_Gr W W := ⟨0, #[], by rw [Go.Sort.grow_empty]; rfl⟩
theorem so_Gr.drewN {W w' : World} (h : so_Gr W w') (n : Nat) : so_Gr W (w'.drewN n) := by
  obtain ⟨q, os, rfl⟩ := h
  refine ⟨q + n, os, ?_⟩
  rw [← World.drewN_drewN]; rfl
theorem so_Gr.drew {W w' : World} (h : so_Gr W w') : so_Gr W w'.drew := h.drewN 1
theorem so_Gr.alloc {W w' : World} (h : so_Gr W w') (o : Obj) : so_Gr W (w'.alloc o) := by
  obtain ⟨q, os, rfl⟩ := h
  exact ⟨q, os ++ #[o], by rw [Go.Sort.alloc_eq_grow, Go.Sort.grow_grow]⟩
/-- Later ones first; of those that go at once, who comes earlier. -/
def so_key (x y : S36) : Int := if so_cmp y.f0 x.f0 ≠ 0 then so_cmp y.f0 x.f0 else so_cmp x.f1 y.f1
def so_p_T1 : Bool × List (List Nat × List Nat) := (true, [([], []), ([0], [0]), ([], []), ([2], [2]), ([1, 3], [1, 3]), ([], []), ([5], [5]), ([], []), ([7], [7]), ([6, 8, 4], [6, 8]), ([4, 9], [4, 9]), ([10, 9], [10]), ([11, 11, 0, 1, 2, 3, 4, 5, 6, 7, 8, 9, 10, 11], [11])])
def so_p_B1 : List Nat := [0, 1, 0, 4, 15, 0, 32, 0, 128, 511, 1023, 2047, 4095]
theorem so_p_tab1 : rtab .any (opsOf Try.f52 1) = so_p_T1 := by kernel_rfl
theorem so_p_bits1 : waitsOk so_p_T1.2 so_p_B1 = true := by kernel_rfl

set_option maxHeartbeats 20000000 in
set_option maxRecDepth 100000 in
theorem so_clo (x y : S36) (W : World) : Calls Try.prog 52 #[.agg #[.int .i64 x.f0, .int .i64 x.f1], .agg #[.int .i64 y.f0, .int .i64 y.f1]] W fun e w' => e = .returned (.int .i64 (so_key x y)) ∧ so_Gr W w' := by
  obtain ⟨a0_0, a0_1⟩ := x
  obtain ⟨a1_0, a1_1⟩ := y
  have hu36 := Try.underlying36
  have HK : Aside0 (so_key ⟨a0_0, a0_1⟩ ⟨a1_0, a1_1⟩ = if so_cmp a1_0 a0_0 ≠ 0 then so_cmp a1_0 a0_0 else so_cmp a0_1 a1_1) := ⟨rfl⟩
  generalize so_key ⟨a0_0, a0_1⟩ ⟨a1_0, a1_1⟩ = r at HK ⊢
  have A3 := fun W => so_compare a1_0 a0_0 W
  have A4 := fun W => so_compare a0_1 a1_1 W
  generalize so_cmp a1_0 a0_0 = t106 at HK A3
  generalize so_cmp a0_1 a1_1 = t107 at HK A4
  have A5 := so_or t106 t107
  rw [← HK.out] at A5
  have B4 : Aside0 ((((W.alloc (.cells #[.int .i64 a0_0, .int .i64 a0_1] 36)).alloc (.cells #[.int .i64 a1_0, .int .i64 a1_1] 36)).drew).heap[W.heap.size]? = some (.cells #[.int .i64 a0_0, .int .i64 a0_1] 36 (0, 0))) := ⟨blk_drew (blk_alloc (blk_new W _) _)⟩
  have B5 : Aside0 ((((W.alloc (.cells #[.int .i64 a0_0, .int .i64 a0_1] 36)).alloc (.cells #[.int .i64 a1_0, .int .i64 a1_1] 36)).drew).heap[W.heap.size + 1]? = some (.cells #[.int .i64 a1_0, .int .i64 a1_1] 36 (0, 0))) := ⟨blk_drew (by have := blk_new (W.alloc (.cells #[.int .i64 a0_0, .int .i64 a0_1] 36)) (.cells #[.int .i64 a1_0, .int .i64 a1_1] 36); rwa [show (W.alloc (.cells #[.int .i64 a0_0, .int .i64 a0_1] 36)).heap.size = W.heap.size + 1 from Array.size_push ..] at this)⟩
  have HG : Aside0 (so_Gr W (((W.alloc (.cells #[.int .i64 a0_0, .int .i64 a0_1] 36)).alloc (.cells #[.int .i64 a1_0, .int .i64 a1_1] 36)).drew)) := ⟨(((so_Gr.refl W).alloc _).alloc _).drew⟩
  go_enter Try.func52, Try.ntmps52
  go_wp2
  have BK104 := B4
  have BK105 := B5
  clear B4 B5
  refine start_ (n := 13) (S := fun w' => w'.cell? ⟨(W.heap.size + 1), 0, none⟩ = some (.int .i64 a1_0) ∧ w'.cell? ⟨(W.heap.size + 1), 1, none⟩ = some (.int .i64 a1_1) ∧ w'.cell? ⟨W.heap.size, 0, none⟩ = some (.int .i64 a0_0) ∧ w'.cell? ⟨W.heap.size, 1, none⟩ = some (.int .i64 a0_1)) (ds := []) (bm_ 13 0) (by kernel_rfl) rfl rfl ⟨ct_ BK105.out 0, ct_ BK105.out 1, ct_ BK104.out 0, ct_ BK104.out 1⟩ (fun hHeld => ?_); refine with_tabW so_p_tab1 so_p_bits1 (fun HT_ HW_ => ?_)
  generalize (((W.alloc (.cells #[.int .i64 a0_0, .int .i64 a0_1] 36)).alloc (.cells #[.int .i64 a1_0, .int .i64 a1_1] 36)).drew) = w8 at BK104 BK105 HG hHeld ⊢
  refine pu_ 0 5 (bm_ 13 1) HT_.out ?_
  refine pu_ 2 7 (bm_ 13 5) HT_.out ?_
  refine pu_ 5 10 (bm_ 13 37) HT_.out ?_
  refine pu_ 7 12 (bm_ 13 165) HT_.out ?_
  refine tk_ 1 6 (bm_ 13 167) HT_.out HW_.out hHeld ?_
  refine tk_ 3 8 (bm_ 13 175) HT_.out HW_.out hHeld ?_
  refine tk_ 6 11 (bm_ 13 239) HT_.out HW_.out hHeld ?_
  refine tk_ 8 13 (bm_ 13 495) HT_.out HW_.out hHeld ?_
  refine one_ (i := 4) (N := some 9) (bm_ 13 511) rfl rfl (one_of HT_.out (by kernel_rfl)) (by decide) (fun K hK => ?_)
  refine go_ Try.func54 #[.int .i64 a1_0, .int .i64 a0_0] ?_
  with_reducible refine (A3 _).mono ?_
  rintro e w' ⟨rfl, ⟨nd, rfl⟩⟩
  refine ⟨_, rfl, ?_⟩
  refine hK.out _ _ ⟨ct_ BK105.out 0, ct_ BK105.out 1, ct_ BK104.out 0, ct_ BK104.out 1⟩ (fun hHeld => ?_)
  clear hK K
  refine nm1_ (some 9) ?_
  refine one_ (i := 9) (N := some 14) (bm_ 13 1023) rfl rfl (one_of HT_.out (by kernel_rfl)) (by decide) (fun K hK => ?_)
  refine go_ Try.func54 #[.int .i64 a0_1, .int .i64 a1_1] ?_
  with_reducible refine (A4 _).mono ?_
  rintro e w' ⟨rfl, ⟨nd, rfl⟩⟩
  refine ⟨_, rfl, ?_⟩
  refine hK.out _ _ ⟨ct_ BK105.out 0, ct_ BK105.out 1, ct_ BK104.out 0, ct_ BK104.out 1⟩ (fun hHeld => ?_)
  clear hK K
  refine nm1_ (some 14) ?_
  refine one_ (i := 10) (N := some 15) (bm_ 13 2047) rfl rfl (one_of HT_.out (by kernel_rfl)) (by decide) (fun K hK => ?_)
  refine so_ls 15 t106 t107 ?_
  replace BK104 := Aside0.mk (blk_alloc BK104.out (.cells #[.int .i64 t106, .int .i64 t107] 3))
  replace BK105 := Aside0.mk (blk_alloc BK105.out (.cells #[.int .i64 t106, .int .i64 t107] 3))
  refine hK.out _ _ ⟨ct_ BK105.out 0, ct_ BK105.out 1, ct_ BK104.out 0, ct_ BK104.out 1⟩ (fun hHeld => ?_)
  clear hK K
  refine nm1_ (some 15) ?_
  refine one_ (i := 11) (N := some 16) (bm_ 13 4095) rfl rfl (one_of HT_.out (by kernel_rfl)) (by decide) (fun K hK => ?_)
  refine go_ Try.func53 #[.slice (some ⟨w8.heap.size, 0, none⟩) 2 2] ?_
  refine (cmp_Or_int.calls 4 _ _ [t106, t107] r _ (so_C _ t106 t107) (by simp) A5).mono ?_
  rintro e w' ⟨rfl, ⟨nd, rfl⟩⟩
  refine ⟨_, rfl, ?_⟩
  refine hK.out _ _ ⟨ct_ BK105.out 0, ct_ BK105.out 1, ct_ BK104.out 0, ct_ BK104.out 1⟩ (fun hHeld => ?_)
  clear hK K
  refine nm1_ (some 16) ?_
  refine pu_ 12 4 (bm_ 13 8191) HT_.out ?_
  refine done_ (done_of HT_.out (by kernel_rfl)) ?_
  try go_wp2
  go_ret
  exact ⟨rfl, by repeat (first | exact HG.out | apply so_Gr.alloc | apply so_Gr.drewN | apply so_Gr.drew)⟩
/-! The sort. -/
def so_enc (x : S36) : List Value := [.int .i64 x.f0, .int .i64 x.f1]
theorem so_lt (x y : S36) : ltOf so_key x y = decide (y.f0 < x.f0 ∨ (y.f0 = x.f0 ∧ x.f1 < y.f1)) := by
  unfold ltOf so_key so_cmp
  by_cases h1 : y.f0 < x.f0
  · simp [h1]
  · by_cases h2 : y.f0 > x.f0
    · have : ¬ y.f0 = x.f0 := by omega
      simp [h1, h2, this]
    · have : y.f0 = x.f0 := by omega
      by_cases h3 : x.f1 < y.f1
      · simp [this, h3]
      · by_cases h4 : x.f1 > y.f1 <;> simp [this, h3, h4]
theorem so_swo : Go.Sort.SWO (ltOf so_key) where
  irrefl x := by rw [so_lt]; simp
  trans x y z h1 h2 := by rw [so_lt] at *; simp at *; omega
  ntrans x y z h1 h2 := by rw [so_lt] at *; simp at *; omega
theorem so_parts (x y : S36) (h1 : ltOf so_key x y = false) (h2 : ltOf so_key y x = false) : x = y := by
  rw [so_lt] at h1 h2
  obtain ⟨a, b⟩ := x
  obtain ⟨c, d⟩ := y
  simp at h1 h2
  have : a = c := by omega
  have : b = d := by omega
  subst_vars; rfl
instance : Inhabited S36 := ⟨z36⟩
def so_F (l : List S36) : List Value := l.flatMap so_enc
theorem so_F_len (l : List S36) : (so_F l).length = l.length * 2 := by
  induction l with
  | nil => rfl
  | cons x l ih => show (so_enc x ++ so_F l).length = _; rw [List.length_append, ih, List.length_cons]; show 2 + _ = _; omega
theorem so_F_get (l : List S36) : ∀ t, (so_F l)[t]? = (l[t / 2]?).bind fun x => (so_enc x)[t % 2]? := by
  induction l with
  | nil => intro t; simp [so_F]
  | cons x l ih =>
    intro t
    show (so_enc x ++ so_F l)[t]? = _
    rcases t with _ | _ | t
    · rfl
    · rfl
    · rw [List.getElem?_append_right (by show 2 ≤ _; omega), show t + 1 + 1 - (so_enc x).length = t from by show t + 1 + 1 - 2 = t; omega, ih t, show (t + 1 + 1) / 2 = t / 2 + 1 by omega, show (t + 1 + 1) % 2 = t % 2 by omega, List.getElem?_cons_succ]
theorem so_flat (d : Array S36) : (Go.Sort.flatK so_enc 2 d).toList = so_F d.toList := by
  apply List.ext_getElem?
  intro t
  by_cases h : t < d.size * 2
  · have h2 : t / 2 < d.size := by omega
    rw [so_F_get, Array.getElem?_toList, getElem?_pos _ t (by rw [Go.Sort.size_flatK]; exact h), ← getElem!_pos, Go.Sort.get_flatK _ _ _ t h, getElem!_pos d (t / 2) h2, Array.getElem?_toList, getElem?_pos d (t / 2) h2]
    rcases Nat.mod_two_eq_zero_or_one t with e | e <;> rw [e] <;> rfl
  · rw [List.getElem?_eq_none (by rw [Array.length_toList, Go.Sort.size_flatK]; omega), List.getElem?_eq_none (by rw [so_F_len, Array.length_toList]; omega)]
theorem so_reps {w : World} {base : Nat} {ok : Nat → Prop} : ∀ {l : List S36} {cs : List Value}, Reps (k36.M w base ok) 2 l cs → cs = so_F l := by
  intro l cs h
  apply List.ext_getElem?
  intro t
  rw [so_F_get]
  by_cases ht : t < l.length * 2
  · have h2 : t / 2 < l.length := by omega
    have e := k36_openM (h.2 (t / 2) _ (List.getElem?_eq_getElem h2))
    rw [List.getElem?_eq_getElem h2, Option.bind_some]
    have e2 : ((cs.drop (t / 2 * 2)).take 2)[t % 2]? = cs[t]? := by
      rw [List.getElem?_take_of_lt (by omega), List.getElem?_drop]
      congr 1; omega
    rw [← e2, e]; rfl
  · rw [List.getElem?_eq_none (by rw [h.1]; omega), List.getElem?_eq_none (by omega)]; rfl
theorem so_reps' {w : World} {base : Nat} {ok : Nat → Prop} (l : List S36) : Reps (k36.M w base ok) 2 l (so_F l) := by
  refine ⟨so_F_len l, fun j p hj => ?_⟩
  have hl : j < l.length := (List.getElem?_eq_some_iff.1 hj).1
  have : ((so_F l).drop (j * 2)).take 2 = so_enc p := by
    apply List.ext_getElem?
    intro t
    by_cases ht : t < 2
    · rw [List.getElem?_take_of_lt ht, List.getElem?_drop, so_F_get, show (j * 2 + t) / 2 = j by omega, show (j * 2 + t) % 2 = t by omega, hj]; rfl
    · rw [List.getElem?_eq_none (by rw [List.length_take]; omega), List.getElem?_eq_none (by show 2 ≤ t; omega)]
  rw [this]
  exact k36_mkM _ _ _ p
theorem so_heap {w : World} {g n : Nat} {os : Array Obj} {cur : Array Value} {e : TypeId} {fr : Nat × Nat} (d : Array S36) (hb : w.heap[g]? = some (.cells cur e fr)) :
    (sortWorldK so_enc 2 w g 0 n d os).heap[g]? = some (.cells (Go.Sort.putCells id 0 (Go.Sort.flatK so_enc 2 d) cur) e fr) := by
  have hg : g < w.heap.size := (Array.getElem?_eq_some_iff.1 hb).1
  unfold sortWorldK Go.Sort.putRowK
  rw [Go.Sort.heap_grow_old _ _ (by simpa using hg)]
  simp [Go.Sort.putRow, Go.Sort.mapBlock, Go.Sort.ahead, Array.getElem?_modify, hb, Go.Sort.onCells]
theorem so_grown {w : World} {g n : Nat} {os : Array Obj} (d : Array S36) : w.grownBy (sortWorldK so_enc 2 w g 0 n d os) (some g) := by
  refine ⟨rfl, rfl, rfl, by simp [sortWorldK, Go.Sort.putRowK, Go.Sort.putRow, Go.Sort.mapBlock, Go.Sort.ahead], fun k hk hne => ?_⟩
  unfold sortWorldK Go.Sort.putRowK
  rw [Go.Sort.heap_grow_old _ _ (by simpa using hk)]
  have : g ≠ k := fun e => hne (by rw [e])
  simp [Go.Sort.putRow, Go.Sort.mapBlock, Go.Sort.ahead, Array.getElem?_modify, this]
theorem so_take (cur F : Array Value) (h : F.size ≤ cur.size) : (Go.Sort.putCells id 0 F cur).toList.take F.size = F.toList := by
  apply List.ext_getElem?
  intro j
  by_cases hj : j < F.size
  · rw [List.getElem?_take_of_lt hj, Array.getElem?_toList, Array.getElem?_toList]
    simp [Go.Sort.putCells, hj, show j < cur.size by omega]
  · rw [List.getElem?_take_eq_none (by omega), List.getElem?_eq_none (by simp; omega)]
def so_lays_ren : Go.Shelf.Ren := ⟨fun | 6 => 51 | 15 => 61 | 14 => 60 | 28 => 71 | 29 => 72 | 20 => 63 | 21 => 64 | 22 => 65 | 23 => 66 | 24 => 67 | 25 => 68 | 26 => 69 | 27 => 70 | 46 => 73 | 47 => 74 | 48 => 75 | 49 => 76 | 50 => 77 | 57 => 78 | n => n, fun | 22 => 22 | 24 => 36 | 25 => 65 | 3 => 3 | 39 => 73 | 0 => 0 | 53 => 83 | 55 => 85 | 4 => 4 | 46 => 76 | 45 => 75 | 50 => 80 | 5 => 5 | 9 => 9 | 66 => 86 | 70 => 90 | 76 => 92 | 77 => 93 | n => n, fun | n => n⟩
theorem so_lays : SlLaysF0.n6 Try.prog so_lays_ren := {
  mixed := by kernel_rfl
  f6 := ⟨Try.f51.name, by decide, Try.func51.trans (congrArg some (by kernel_rfl))⟩
  f14 := ⟨Try.f60.name, by decide, Try.func60.trans (congrArg some (by kernel_rfl))⟩
  f15 := Try.func61.trans (congrArg some (by kernel_rfl))
  f20 := ⟨Try.f63.name, by decide, Try.func63.trans (congrArg some (by kernel_rfl))⟩
  f21 := ⟨Try.f64.name, by decide, Try.func64.trans (congrArg some (by kernel_rfl))⟩
  f22 := ⟨Try.f65.name, by decide, Try.func65.trans (congrArg some (by kernel_rfl))⟩
  f23 := ⟨Try.f66.name, by decide, Try.func66.trans (congrArg some (by kernel_rfl))⟩
  f24 := ⟨Try.f67.name, by decide, Try.func67.trans (congrArg some (by kernel_rfl))⟩
  f25 := ⟨Try.f68.name, by decide, Try.func68.trans (congrArg some (by kernel_rfl))⟩
  f26 := ⟨Try.f69.name, by decide, Try.func69.trans (congrArg some (by kernel_rfl))⟩
  f27 := ⟨Try.f70.name, by decide, Try.func70.trans (congrArg some (by kernel_rfl))⟩
  f28 := Try.func71.trans (congrArg some (by kernel_rfl))
  f29 := Try.func72.trans (congrArg some (by kernel_rfl))
  f46 := ⟨Try.f73.name, by decide, Try.func73.trans (congrArg some (by kernel_rfl))⟩
  f47 := Try.func74.trans (congrArg some (by kernel_rfl))
  f48 := Try.func75.trans (congrArg some (by kernel_rfl))
  f49 := ⟨Try.f76.name, by decide, Try.func76.trans (congrArg some (by kernel_rfl))⟩
  f50 := ⟨Try.f77.name, by decide, Try.func77.trans (congrArg some (by kernel_rfl))⟩
  f57 := ⟨Try.f78.name, by decide, Try.func78.trans (congrArg some (by kernel_rfl))⟩
  t0 := Try.underlying0
  a0 := Try.isAgg0
  z0 := Try.sizeOf0
  v0 := Try.zeroValue0
  t3 := Try.underlying3
  a3 := Try.isAgg3
  z3 := Try.sizeOf3
  v3 := Try.zeroValue3
  t4 := Try.underlying4
  a4 := Try.isAgg4
  z4 := Try.sizeOf4
  v4 := Try.zeroValue4
  t5 := Try.underlying5
  a5 := Try.isAgg5
  z5 := Try.sizeOf5
  v5 := Try.zeroValue5
  t9 := Try.underlying9
  a9 := Try.isAgg9
  z9 := Try.sizeOf9
  v9 := Try.zeroValue9
  t22 := Try.underlying22
  a22 := Try.isAgg22
  z22 := Try.sizeOf22
  v22 := Try.zeroValue22
  t25 := Try.underlying65
  a25 := Try.isAgg65
  z25 := Try.sizeOf65
  v25 := Try.zeroValue65
  t39 := Try.underlying73
  a39 := Try.isAgg73
  z39 := Try.sizeOf73
  v39 := Try.zeroValue73
  t45 := Try.underlying75
  a45 := Try.isAgg75
  z45 := Try.sizeOf75
  v45 := Try.zeroValue75
  t46 := Try.underlying76
  a46 := Try.isAgg76
  z46 := Try.sizeOf76
  v46 := Try.zeroValue76
  t50 := Try.underlying80
  a50 := Try.isAgg80
  z50 := Try.sizeOf80
  v50 := Try.zeroValue80
  t53 := Try.underlying83
  a53 := Try.isAgg83
  z53 := Try.sizeOf83
  v53 := Try.zeroValue83
  t55 := Try.underlying85
  a55 := Try.isAgg85
  z55 := Try.sizeOf85
  v55 := Try.zeroValue85
  t66 := Try.underlying86
  a66 := Try.isAgg86
  z66 := Try.sizeOf86
  v66 := Try.zeroValue86
  t70 := Try.underlying90
  a70 := Try.isAgg90
  z70 := Try.sizeOf90
  v70 := Try.zeroValue90
  t76 := Try.underlying92
  a76 := Try.isAgg92
  z76 := Try.sizeOf92
  v76 := Try.zeroValue92
  t77 := Try.underlying93
  a77 := Try.isAgg93
  z77 := Try.sizeOf93
  v77 := Try.zeroValue93 }

def impl_Step_51.f (l0 : List S36) (a1 : Int) : Option (List S36) := if l0.length < 4611686018427387904 then some (l0.mergeSort fun x y => !(ltOf so_key) y x) else none
theorem so_eg : ∀ args w, (callFunc 52 args).run Try.prog w = .ok (.enter 52 args) w := enters_of Try.func52 (by kernel_rfl) rfl
set_option maxHeartbeats 2000000 in
theorem impl_Step_51.calls (P0_ : Nat → Prop) (u9000_ : Value) (l0 : List (S36)) (a1 : Int) (r : List (S36)) (w0 w : World) (hB : Below w0.heap.size w0 w) (ho0 : Kd.R k36 36 w w0.heap.size P0_ u9000_ l0) (h : impl_Step_51.f l0 a1 = some r) :
    Calls Try.prog 51 #[u9000_, .func (.func 52) #[] #[]] w fun e w' => e = .returned (.tuple #[]) ∧ Kd.R k36 36 w' w0.heap.size (fun k_ => (P0_ k_ ∨ w.heap.size ≤ k_)) u9000_ r ∧ Below w0.heap.size w0 w' ∧ Kept w w' (fun k_ => P0_ k_) := by
  unfold impl_Step_51.f at h
  split at h
  · rename_i hl
    obtain rfl := Option.some.inj h
    obtain ⟨hp, inner, ⟨hlen, hown⟩, hreps⟩ := ho0
    rcases hown with ⟨rfl, h0⟩ | ⟨g, cap, cur, rfl, hbase, hb, h1, h2, h3, h4⟩
    · have : l0 = [] := List.eq_nil_of_length_eq_zero h0
      subst this
      have hc := AnyF.slices_SortFunc_none so_lays none 0 (.func (.func 52) #[] #[]) w
      change Calls Try.prog 51 _ _ _ at hc
      refine hc.mono ?_
      rintro e w' ⟨rfl, rfl⟩
      exact ⟨rfl, by simpa using Kd.R_nil _ _ _ _ _, hB, Kept.refl _ _⟩
    · have hi := so_reps hreps
      have hg : g < w.heap.size := (Array.getElem?_eq_some_iff.1 hb).1
      have hF : (Go.Sort.flatK so_enc 2 l0.toArray).toList = inner := by rw [so_flat, hi]
      have hH : Go.Sort.HoldsK so_enc 2 w g 0 l0.toArray := by
        intro j hj
        have hj' : j < l0.length * 2 := by simpa using hj
        refine ⟨?_, by simp [World.frozen?, hb]⟩
        have e1 : cur[j]? = some (Go.Sort.flatK so_enc 2 l0.toArray)[j]! := by
          have e2 : (cur.toList.take (l0.length * 2))[j]? = cur.toList[j]? := List.getElem?_take_of_lt hj'
          have e3 : cur.toList.take (l0.length * 2) = inner := h4
          rw [getElem!_pos _ j hj, ← Array.getElem?_toList, ← e2, e3, ← hF, Array.getElem?_toList, getElem?_pos _ j hj]
        simp only [World.cell?, hb, Nat.zero_add, Option.isSome_none, Bool.false_eq_true, if_false]
        exact e1
      have hc := AnyQ.slices_SortFunc_total so_lays 2 Try.isAgg36 Try.sizeOf36 so_enc (fun _ => rfl) (fun x v hv => by simp [so_enc] at hv; rcases hv with rfl | rfl <;> rfl) so_key so_swo 52 #[] g 0 cap l0.toArray w so_eg (fun m os dk _ x y => so_clo x y _) hH hg (by simpa using hl) so_parts
      change Calls Try.prog 51 _ _ _ at hc
      simp only [List.size_toArray] at hc
      refine hc.mono ?_
      rintro e w' ⟨rfl, n, os, rfl⟩
      generalize hr : (l0.mergeSort fun x y => !(ltOf so_key) y x) = r
      have hrl : r.length = l0.length := by rw [← hr, List.length_mergeSort]
      have G := so_grown (w := w) (g := g) (n := n) (os := os) r.toArray
      have hcs : l0.length * 2 ≤ cur.size := Nat.le_trans (Nat.mul_le_mul_right _ h1) h3
      have hsz : (Go.Sort.flatK so_enc 2 r.toArray).size = l0.length * 2 := by rw [Go.Sort.size_flatK, List.size_toArray, hrl]
      refine ⟨rfl, ⟨fun k hk => .inl (hp k hk), so_F r, ⟨by rw [so_F_len]; rfl, .inr ⟨g, cap, _, by rw [hrl], hbase, so_heap _ hb, by rw [hrl]; exact h1, h2, ?_, ?_⟩⟩, so_reps' r⟩, ?_, ?_⟩
      · simpa [Go.Sort.putCells] using h3
      · show List.take (r.length * 2) _ = _
        rw [hrl, ← hsz, so_take _ _ (by rw [hsz]; exact hcs), so_flat]
      · exact hB.trans ⟨G.os, G.tape, G.output, G.size, fun i hi' => G.block i (Nat.lt_of_lt_of_le hi' hB.size) (by intro e; injection e with e; omega)⟩
      · exact ⟨G.size, fun i hi' hn => G.block i hi' (fun e => hn (hp i (by rw [e]; rfl)))⟩
  · cases h

end Go.Proofs.Ytfpfaaibgaejjaa.Print
