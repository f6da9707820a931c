-- Made by this session's own program (wip/patch_print.py, over the kit's print). Lean checks it.
import Derived.Test.YtpjmkghmjpbldaaPrint0
import Derived.Test.YtpjmkghmjpbldaaPrintF22
namespace Go.Proofs.Ytpjmkghmjpbldaa.Print
open Go.RowKit Go.Proofs.YtpjmkghmjpbldaaW.PrintWords Go.Proofs.YtpjmkghmjpbldaaW.PrintLast Go.Proofs.YtpjmkghmjpbldaaW.PrintMore Go.Proofs.YtpjmkghmjpbldaaX
attribute [local go_sem] max2_int min2_int max_two min_two max_three min_three max_four min_four   -- for this text's walks alone
set_option linter.unusedVariables false
set_option linter.unusedSimpArgs false

/-! ### impl_NetOut: function 29 -/
def impl_NetOut.l0 : Nat → Int → List Int → List (S37) → Int → Int → Option (List Int)
  | 0, _, _, _, _, _ => none
  | k + 1, x1, x5, x16, x17, x18 => if x18 < x17 then (if 0 ≤ x18 then (if x18 < (x16.length : Int) then (if ((rd_T37 x16 x18).f0) = x1 then (if x5.length < 17592186044416 then (impl_NetOut.l0 k x1 (x5 ++ [x18]) x16 x17 (wrap64 (x18 + 1))) else (none)) else (impl_NetOut.l0 k x1 x5 x16 x17 (wrap64 (x18 + 1)))) else (none)) else (none)) else (some (x5))
def impl_NetOut.f (k : Nat) (a0_0 : Int) (l0_1 : List (S37)) (a1 : Int) : Option (List Int) := (impl_NetOk.f a0_0 l0_1).bind fun t328 => (if t328 = true then (if 0 ≤ (l0_1.length : Int) then (if ((l0_1.length : Int) : Int).toNat ≤ 35184372088832 then (impl_NetOut.l0 k a1 (([] : List Int)) l0_1 (l0_1.length : Int) 0) else (none)) else (none)) else (some ([] : List Int)))
theorem impl_NetOut.mono_l : ∀ k, (∀ y0 y1 y2 y3 y4, LeO (impl_NetOut.l0 k y0 y1 y2 y3 y4) (impl_NetOut.l0 (k + 1) y0 y1 y2 y3 y4))
  | 0 => fun _ _ _ _ _ r h => by simp [impl_NetOut.l0] at h
  | k + 1 => by
    have ih0 := impl_NetOut.mono_l k
    · intro y0 y1 y2 y3 y4
      unfold impl_NetOut.l0
      repeat' first | (with_reducible first | exact ih0 _ _ _ _ _ | exact LeO.refl _ | exact LeO.none _ | refine LeO.ite ?_ ?_ | refine LeO.bind ?_ (fun _ => ?_)) | exact ih0 _ _ _ _ _ | exact LeO.none _ | refine LeO.ite ?_ ?_ | refine LeO.bind ?_ (fun _ => ?_)
theorem impl_NetOut.mono : ∀ a0 a1 a2 k, LeO (impl_NetOut.f k a0 a1 a2) (impl_NetOut.f (k + 1) a0 a1 a2) := by
  intro a0 a1 a2 k
  have ih0 := impl_NetOut.mono_l k
  unfold impl_NetOut.f
  repeat' first | (with_reducible first | exact ih0 _ _ _ _ _ | exact LeO.refl _ | exact LeO.none _ | refine LeO.ite ?_ ?_ | refine LeO.bind ?_ (fun _ => ?_)) | exact ih0 _ _ _ _ _ | exact LeO.none _ | refine LeO.ite ?_ ?_ | refine LeO.bind ?_ (fun _ => ?_)
set_option maxHeartbeats 200000000 in
set_option maxRecDepth 100000 in
theorem impl_NetOut.calls (k : Nat) (a0_0 : Int) (A0_1 : Option Addr) (c0_1 : Nat) (l0_1 : List (S37)) (a1 : Int) (r : List Int) (w : World) (hr0_1 : Kd.C k37 w A0_1 l0_1.length l0_1) (hc0_1 : l0_1.length ≤ c0_1) (h : impl_NetOut.f k a0_0 l0_1 a1 = some r) :
    Calls Try.prog 29 #[.agg #[.int .i64 a0_0, .slice A0_1 l0_1.length c0_1], .int .i64 a1] w fun e w' => ∃ v0_ : Value, e = .returned (v0_) ∧ Kd.R (Kd.int .i64) 3 w' w.heap.size (fun _ => True) v0_ r ∧ Below w.heap.size w w' := by
  have hu29 := Try.underlying29
  have hu37 := Try.underlying37
  have HR0_1 := Aside0.mk hr0_1
  have HC0_1 := Aside0.mk hc0_1
  clear hr0_1 hc0_1
  have HB := Aside0.mk (Below.refl w.heap.size w)
  have H : ((impl_NetOk.f a0_0 l0_1).bind fun t328 => (if t328 = true then (if 0 ≤ (l0_1.length : Int) then (if ((l0_1.length : Int) : Int).toNat ≤ 35184372088832 then (impl_NetOut.l0 k a1 (([] : List Int)) l0_1 (l0_1.length : Int) 0) else (none)) else (none)) else (some ([] : List Int)))) = some r := h
  clear h
  replace H := Option.bind_eq_some_iff.mp H
  obtain ⟨t328, A30, H⟩ := H
  try dsimp only at H
  have A3 := Aside0.mk A30
  clear A30
  by_cases c4 : t328 = true
  rotate_left
  ·replace c4 := Bool.eq_false_iff.mpr c4
   subst c4
   have H1 : (some ([] : List Int)) = some r := by rw [if_neg (show ¬ (false = true) by decide)] at H; exact H
   clear H
   have H := H1
   clear H1
   obtain rfl := Option.some.inj H
   go_enter Try.func29, Try.ntmps29
   go_wp2_with (first | ((with_reducible refine gate_dst (N := 2) rfl ?_); refine bx_ 2 #[.int .i64 a0_0, .slice A0_1 l0_1.length c0_1] 29 ?_; intro gb327 hg w28 hbox hb; have BK327 := Aside0.mk (hbox); have GW327 := Aside0.mk (zs_ hg (ne_ HB.out)); have GE327 := Aside0.mk (zs_ hg (ne_ HB.out)); replace HB := kB_ HB hb; clear hb hbox hg; obtain ⟨hcz29_0, hcz29_1, hfz29_0, hfz29_1⟩ := cz2_ BK327.out) | ((with_reducible refine gate_callee (f := 22) rfl ?_); refine gl_ (some 9) Try.func22 #[.agg #[.int .i64 a0_0, .slice A0_1 l0_1.length c0_1]] ?_; (with_reducible refine (impl_NetOk.calls a0_0 _ _ l0_1 false _ ?side1 ?side2 A3.out).mono ?_); (case side1 => exact nc_ (Kd.C_below HR0_1.out HB.out)); (case side2 => exact HC0_1.out); rintro e w30 ⟨rfl, hb⟩; refine ⟨_, rfl, ?_⟩; replace BK327 := kb_ BK327 hb; replace HB := kB_ HB hb; (try clear hb); (try clear hb2); (try clear hk); (try clear hi)))
   go_ret
   exact ⟨_, nw_, by first | exact Kd.R_nil _ _ _ _ _ | exact Kd.N_nil _ _ _ _ _ | exact Kd.V_nil _ _ _ _ _ | exact Kd.Q_nil _ _ _ _ _ | exact Kd.S_nil _ _ _ _ _, ne_ HB.out⟩

  subst c4
  rw [if_pos rfl] at H
  by_cases c5 : 0 ≤ (l0_1.length : Int)
  rotate_left
  ·rw [if_neg c5] at H
   exact absurd H (by simp)
  rw [if_pos c5] at H
  have c5b0 := eq_true c5
  have c5b1 : decide (0 ≤ (l0_1.length : Int)) = true := decide_eq_true c5
  clear c5
  by_cases c6 : ((l0_1.length : Int) : Int).toNat ≤ 35184372088832
  rotate_left
  ·rw [if_neg c6] at H
   exact absurd H (by simp)
  rw [if_pos c6] at H
  have c6b0 := eq_true c6
  have c6b1 : decide (((l0_1.length : Int) : Int).toNat ≤ 35184372088832) = true := decide_eq_true c6
  clear c6
  obtain ⟨y329, hy329⟩ : ∃ y_ : List Int, y_ = (([] : List Int)) := ⟨_, rfl⟩
  replace H : (impl_NetOut.l0 k a1 y329 l0_1 (l0_1.length : Int) 0) = some r := by first | (rw [hy329]; with_reducible exact H) | (have H2_ := (Option.bind_some _ _).symm.trans H; rw [hy329]; with_reducible exact H2_) | (have H2_ := (Option.bind_some _ _).symm.trans H; with_reducible exact H2_) | with_reducible exact H | (rw [hy329]; exact H) | exact H
  have Ny329 := Aside0.mk hy329
  clear hy329
  have H' := Aside0.mk H
  clear H
  go_enter Try.func29, Try.ntmps29
  go_wp2_with (first | ((with_reducible refine gate_dst (N := 2) rfl ?_); refine bx_ 2 #[.int .i64 a0_0, .slice A0_1 l0_1.length c0_1] 29 ?_; intro gb327 hg w7 hbox hb; have BK327 := Aside0.mk (hbox); have GW327 := Aside0.mk (zs_ hg (ne_ HB.out)); have GE327 := Aside0.mk (zs_ hg (ne_ HB.out)); replace HB := kB_ HB hb; clear hb hbox hg; obtain ⟨hcz8_0, hcz8_1, hfz8_0, hfz8_1⟩ := cz2_ BK327.out) | ((with_reducible refine gate_callee (f := 22) rfl ?_); refine gl_ (some 9) Try.func22 #[.agg #[.int .i64 a0_0, .slice A0_1 l0_1.length c0_1]] ?_; (with_reducible refine (impl_NetOk.calls a0_0 _ _ l0_1 true _ ?side1 ?side2 A3.out).mono ?_); (case side1 => exact nc_ (Kd.C_below HR0_1.out HB.out)); (case side2 => exact HC0_1.out); rintro e w9 ⟨rfl, hb⟩; refine ⟨_, rfl, ?_⟩; replace BK327 := kb_ BK327 hb; replace HB := kB_ HB hb; (try clear hb); (try clear hb2); (try clear hk); (try clear hi); obtain ⟨hcz10_0, hcz10_1, hfz10_0, hfz10_1⟩ := cz2_ BK327.out) | ((with_reducible refine gate_dst (N := 14) rfl ?_); refine Go.Proofs.YtpjmkghmjpbldaaX.Kd.R_make0 (Kd.int .i64) _ 3 rfl (N := 14) rfl 41 _ _ rfl (l0_1.length : Int) rfl rfl Try.underlying41 (.int .i64 0) 8 info3 (by omega) (ok := fun _ => True) trivial (of_decide_eq_true nx_) (Nat.le_trans (Nat.mul_le_mul_right _ (of_decide_eq_true nx_ : ((l0_1.length : Int) : Int).toNat ≤ 35184372088832)) (by omega)) (Below.refl _ _) (Nat.le_refl _) ?_; intro v330 w11 ho12 hb hg_ hnew_; clear hg_ hnew_; (first | rw [← Ny329.out] at ho12 | (simp only [Int.reduceToNat] at ho12; rw [← Ny329.out] at ho12)); have HO331 := Aside0.mk (Kd.R_lower ho12 (below_size (ne_ HB.out))); replace BK327 := kb_ BK327 hb; replace HB := kB_ HB hb; clear hb ho12; obtain ⟨hcz13_0, hcz13_1, hfz13_0, hfz13_1⟩ := cz2_ BK327.out))
  go_loopg [5, 18] k (fun kq v5 v18 w' => ∃ (x5_1 : List Int) (x18_1 : Int), v18 = .int .i64 x18_1 ∧ Aside0 (impl_NetOut.l0 kq a1 x5_1 l0_1 (l0_1.length : Int) x18_1 = some r) ∧ Aside0 (kq ≤ k) ∧ Aside0 (Kd.R (Kd.int .i64) 3 w' w.heap.size (fun _ => True) v5 x5_1) ∧ Aside0 (w'.heap[gb327]? = some (.cells #[.int .i64 a0_0, (.slice A0_1 l0_1.length c0_1)] 29 (0, 0))) ∧ Aside0 (Below w.heap.size w w'))
  case atStart => exact ⟨(y329), (0), ns_, H', ⟨Nat.le_refl _⟩, ⟨nr_ HO331.out⟩, ⟨nb_ BK327.out⟩, ⟨ne_ HB.out⟩⟩
  case round =>
   clear H'
   try clear c4
   try clear c5
   try clear c5b0
   try clear c5b1
   try clear c6
   try clear c6b0
   try clear c6b1
   try clear hcz10_0
   try clear hcz10_1
   try clear hcz13_0
   try clear hcz13_1
   try clear hcz8_0
   try clear hcz8_1
   try clear hfz10_0
   try clear hfz10_1
   try clear hfz13_0
   try clear hfz13_1
   try clear hfz8_0
   try clear hfz8_1
   obtain ⟨x5_1, x18_1, rfl, HA, HK1, HO_5, BK327, HB⟩ := hrel
   cases gk with
   | zero => exact absurd HA.out (by simp [impl_NetOut.l0])
   | succ k1 =>
    have H := HA.out
    clear HA
    simp only [impl_NetOut.l0] at H
    by_cases c14 : x18_1 < (l0_1.length : Int)
    rotate_left
    ·rw [if_neg c14] at H
     have c14b0 : decide (x18_1 < (l0_1.length : Int)) = false := decide_eq_false c14
     clear c14
     obtain ⟨y337, hy337⟩ : ∃ y_ : List Int, y_ = (x5_1) := ⟨_, rfl⟩
     replace H : (some y337) = some r := by first | (rw [hy337]; with_reducible exact H) | (have H2_ := (Option.bind_some _ _).symm.trans H; rw [hy337]; with_reducible exact H2_) | (have H2_ := (Option.bind_some _ _).symm.trans H; with_reducible exact H2_) | with_reducible exact H | (rw [hy337]; exact H) | exact H
     have Ny337 := Aside0.mk hy337
     clear hy337
     obtain rfl := Option.some.inj H
     obtain ⟨Ao26, co26, eo26⟩ := Kd.R_slice HO_5.out
     subst eo26
     obtain ⟨i027, hi027, _, hsz27, _⟩ := info_parts info3
     have hy27 : y337.length = x5_1.length := (by rw [Ny337.out])
     have hcut27 : ∀ W : World, (Instr.slice 41 (.slice Ao26 x5_1.length co26) none (some (.int .i64 (x5_1.length : Int))) (some (.int .i64 (x5_1.length : Int)))).run Try.prog W = .ok (.slice Ao26 y337.length y337.length) W := (by rw [hy27]; exact Go.Proofs.YtpjmkghmjpbldaaX.clip_run (P := Try.prog) 41 3 Try.underlying41 hi027 Ao26 x5_1.length co26 (Kd.R_reads' HO_5.out).2.1)
     have hr27 := Go.Proofs.YtpjmkghmjpbldaaX.Kd.R_clip HO_5.out rfl
     rw [show x5_1 = y337 from Ny337.out.symm] at hr27
     clear hy27 hi027 hsz27 HO_5
     have HO339 := Aside0.mk hr27
     clear hr27
     go_wp2
     go_ret
     exact ⟨_, nw_, nr_ HO339.out, ne_ HB.out⟩
    rw [if_pos c14] at H
    have c14b0 : decide (x18_1 < (l0_1.length : Int)) = true := decide_eq_true c14
    clear c14
    by_cases c15 : 0 ≤ x18_1
    rotate_left
    ·rw [if_neg c15] at H
     exact absurd H (by simp)
    rw [if_pos c15] at H
    have c15b0 : decide (0 ≤ x18_1) = true := decide_eq_true c15
    clear c15
    by_cases c16 : x18_1 < (l0_1.length : Int)
    rotate_left
    ·rw [if_neg c16] at H
     exact absurd H (by simp)
    rw [if_pos c16] at H
    have c16b0 : decide (x18_1 < (l0_1.length : Int)) = true := decide_eq_true c16
    clear c16
    by_cases c17 : ((rd_T37 l0_1 x18_1).f0) = a1
    rotate_left
    ·rw [if_neg c17] at H
     have c17b0 : (((rd_T37 l0_1 x18_1).f0) == a1) = false := beq_eq_false_iff_ne.mpr c17
     have c17b1 : (((rd_T37 l0_1 x18_1).f0) != a1) = true := bne_iff_ne.mpr c17
     have H' := Aside0.mk H
     clear H
     have p332 : 0 ≤ (x18_1 : Int) := of_decide_eq_true nx_
     have q332 : x18_1 < (l0_1.length : Int) := of_decide_eq_true nx_
     obtain ⟨ad332, e332, hx332_0, hx332_1, hx332_2, hx332_3, hx332_4⟩ := at_T37 HR0_1.out x18_1 p332 q332
     cases e332
     replace hx332_0 := hb_ HB.out hx332_0
     replace hx332_1 := hb_ HB.out hx332_1
     replace hx332_2 := hb_ HB.out hx332_2
     replace hx332_3 := hb_ HB.out hx332_3
     replace hx332_4 := hb_ HB.out hx332_4
     replace p332 := eq_true p332
     replace q332 := eq_true q332
     go_wp2_with (first | ((with_reducible refine gate_dst (N := 7) rfl ?_); refine bx_ 7 #[.int .i64 0, .int .i64 0, .int .i64 0, .int .i64 0, .int .i64 0] 37 ?_; intro gb333 hg w23 hbox hb; have BK333 := Aside0.mk (hbox); have GW333 := Aside0.mk (zs_ hg (ne_ HB.out)); have GE333 := Aside0.mk (zs_ hg (ne_ HB.out)); have NB327_333 := Aside0.mk (nl_ BK327.out hg); have NB333_327 := Aside0.mk (nm_ BK327.out hg); replace HO_5 := kR_ HO_5 hb; replace BK327 := kb_ BK327 hb; replace HB := kB_ HB hb; clear hb hbox hg; have hnb24 := NB333_327.out; have hnc24 := NB327_333.out; obtain ⟨hcz25_0, hcz25_1, hcz25_2, hcz25_3, hcz25_4, hfz25_0, hfz25_1, hfz25_2, hfz25_3, hfz25_4⟩ := cz5_ BK333.out))
     go_roundg k1
     case measure => have := HK1.out; omega
     case rel => exact ⟨(x5_1), (wrap64 (x18_1 + 1)), ns_, H', ⟨by have := HK1.out; omega⟩, ⟨by (with_reducible repeat (first | apply Kd.R_alloc | apply Kd.R_drewN | apply Kd.R_drew)); exact Kd.R_mono (rf5_ (Kd.R_types HO_5.out BK333.out (by decide))) (fun _ hk => trivial)⟩, ⟨np_ BK327.out⟩, ⟨ne_ HB.out⟩⟩
    rw [if_pos c17] at H
    have c17b0 : (((rd_T37 l0_1 x18_1).f0) == a1) = true := beq_iff_eq.mpr c17
    have c17b1 : (((rd_T37 l0_1 x18_1).f0) != a1) = false := bne_eq_false_iff_eq.mpr c17
    clear c17
    by_cases c18 : x5_1.length < 17592186044416
    rotate_left
    ·rw [if_neg c18] at H
     exact absurd H (by simp)
    rw [if_pos c18] at H
    have LMc18 := Aside0.mk c18
    clear c18
    obtain ⟨y334, hy334⟩ : ∃ y_ : List Int, y_ = (x5_1 ++ [x18_1]) := ⟨_, rfl⟩
    replace H : (impl_NetOut.l0 k1 a1 y334 l0_1 (l0_1.length : Int) (wrap64 (x18_1 + 1))) = some r := by first | (rw [hy334]; with_reducible exact H) | (have H2_ := (Option.bind_some _ _).symm.trans H; rw [hy334]; with_reducible exact H2_) | (have H2_ := (Option.bind_some _ _).symm.trans H; with_reducible exact H2_) | with_reducible exact H | (rw [hy334]; exact H) | exact H
    have Ny334 := Aside0.mk hy334
    clear hy334
    have H' := Aside0.mk H
    clear H
    have p332 : 0 ≤ (x18_1 : Int) := of_decide_eq_true nx_
    have q332 : x18_1 < (l0_1.length : Int) := of_decide_eq_true nx_
    obtain ⟨ad332, e332, hx332_0, hx332_1, hx332_2, hx332_3, hx332_4⟩ := at_T37 HR0_1.out x18_1 p332 q332
    cases e332
    replace hx332_0 := hb_ HB.out hx332_0
    replace hx332_1 := hb_ HB.out hx332_1
    replace hx332_2 := hb_ HB.out hx332_2
    replace hx332_3 := hb_ HB.out hx332_3
    replace hx332_4 := hb_ HB.out hx332_4
    replace p332 := eq_true p332
    replace q332 := eq_true q332
    go_wp2_with (first | ((with_reducible refine gate_dst (N := 7) rfl ?_); refine bx_ 7 #[.int .i64 0, .int .i64 0, .int .i64 0, .int .i64 0, .int .i64 0] 37 ?_; intro gb333 hg w19 hbox hb; have BK333 := Aside0.mk (hbox); have GW333 := Aside0.mk (zs_ hg (ne_ HB.out)); have GE333 := Aside0.mk (zs_ hg (ne_ HB.out)); have NB327_333 := Aside0.mk (nl_ BK327.out hg); have NB333_327 := Aside0.mk (nm_ BK327.out hg); replace HO_5 := kR_ HO_5 hb; replace BK327 := kb_ BK327 hb; replace HB := kB_ HB hb; clear hb hbox hg; have hnb20 := NB333_327.out; have hnc20 := NB327_333.out; obtain ⟨hcz21_0, hcz21_1, hcz21_2, hcz21_3, hcz21_4, hfz21_0, hfz21_1, hfz21_2, hfz21_3, hfz21_4⟩ := cz5_ BK333.out) | ((with_reducible refine gate_builtin (b := .append) (xs := #[.tmp 27, .tmp 29]) rfl ?_); at_builtin; refine Kd.R_append (Kd.int .i64) (w0 := w) w.heap.size rfl (.tmp 27) (.tmp 29) 41 3 (.int .i64 0) 8 rfl Try.underlying41 info3 rfl (by decide) (by omega) u5 x5_1 x18_1 [.int .i64 x18_1] (fun _ => True) (fun _ => False) rfl (by first | (go_simp; done) | (go_simp; rfl)) ?aP (fun _ hk => hk.elim) ?aF ?aO ?aB ?aS ?aL ?_; (case aP => exact rfl); (case aB => exact (ne_ HB.out)); (case aF => exact (fun _ _ => trivial)); (case aO => exact (by (with_reducible repeat (first | apply Kd.R_alloc | apply Kd.R_drewN | apply Kd.R_drew)); exact Kd.R_mono (rf5_ (Kd.R_types HO_5.out BK333.out (by decide))) (fun _ hk => trivial))); (case aS => exact (below_size (ne_ HB.out))); (case aL => have := LMc18.out; omega); intro v335 w22 ho hb hg hat; rw [← Ny334.out] at ho; have HO336 := Aside0.mk (ho); replace BK327 := Aside0.mk (blk_grown (g := gb327) (o := .cells #[.int .i64 a0_0, .slice (some ad332) l0_1.length c0_1] 29 (0, 0)) (nbf_ BK327.out) hg (Kd.R_ne HO_5.out BK327.out (by decide))); replace BK333 := Aside0.mk (blk_grown (g := gb333) (o := .cells #[.int .i64 ((rd_T37 l0_1 x18_1).f0), .int .i64 ((rd_T37 l0_1 x18_1).f1), .int .i64 ((rd_T37 l0_1 x18_1).f2), .int .i64 ((rd_T37 l0_1 x18_1).f3), .int .i64 ((rd_T37 l0_1 x18_1).f4)] 37 (0, 0)) (np_ BK333.out) hg (Kd.R_ne HO_5.out BK333.out (by decide))); replace HB := Aside0.mk (hb); clear HO_5; clear ho hb hg hat))
    go_roundg k1
    case measure => have := HK1.out; omega
    case rel => exact ⟨(y334), (wrap64 (x18_1 + 1)), ns_, H', ⟨by have := HK1.out; omega⟩, ⟨nr_ HO336.out⟩, ⟨nb_ BK327.out⟩, ⟨ne_ HB.out⟩⟩
end Go.Proofs.Ytpjmkghmjpbldaa.Print
