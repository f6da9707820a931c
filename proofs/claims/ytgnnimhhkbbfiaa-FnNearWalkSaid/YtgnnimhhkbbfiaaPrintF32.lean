-- Made by this session's own program (wip/patch_print.py, over the kit's print). Lean checks it.
import Derived.Test.YtgnnimhhkbbfiaaPrint0
namespace Go.Proofs.Ytgnnimhhkbbfiaa.Print
open Go.RowKit Go.Proofs.YtgnnimhhkbbfiaaW.PrintWords Go.Proofs.YtgnnimhhkbbfiaaW.PrintLast Go.Proofs.YtgnnimhhkbbfiaaW.PrintMore Go.Proofs.YtgnnimhhkbbfiaaX
attribute [local go_sem] max2_int min2_int max_two min_two max_three min_three max_four min_four   -- for this text's walks alone
set_option linter.unusedVariables false
set_option linter.unusedSimpArgs false

/-! ### spec_l1Back: function 32 -/
def spec_l1Back.l0 : Nat → Int → Int → List (S47) → Int → List (S47) → Option (Int × (List (S47)))
  | 0, _, _, _, _, _ => none
  | k + 1, x4, x262000, x262001, x264000, x264001 => if x4 < (x262001.length : Int) then (if 0 ≤ x4 then (if x264001.length < 3518437208883 then (spec_l1Back.l0 k (wrap64 (x4 + 1)) x262000 x262001 x264000 (x264001 ++ [(⟨(rd_T47 x262001 x4).f1, (rd_T47 x262001 x4).f0, (rd_T47 x262001 x4).f2, (rd_T47 x262001 x4).f3, (rd_T47 x262001 x4).f4⟩ : S47)])) else (none)) else (none)) else (some (x264000, x264001))
def spec_l1Back.f (k : Nat) (a0_0 : Int) (l0_1 : List (S47)) : Option (Int × (List (S47))) := spec_l1Back.l0 k 0 a0_0 l0_1 a0_0 ([] : List (S47))
theorem spec_l1Back.mono_l : ∀ k, (∀ y0 y1 y2 y3 y4, LeO (spec_l1Back.l0 k y0 y1 y2 y3 y4) (spec_l1Back.l0 (k + 1) y0 y1 y2 y3 y4))
  | 0 => fun _ _ _ _ _ r h => by simp [spec_l1Back.l0] at h
  | k + 1 => by
    have ih0 := spec_l1Back.mono_l k
    · intro y0 y1 y2 y3 y4
      unfold spec_l1Back.l0
      repeat' first | (with_reducible first | exact ih0 _ _ _ _ _ | exact LeO.refl _ | exact LeO.none _ | refine LeO.ite ?_ ?_ | refine LeO.bind ?_ (fun _ => ?_)) | exact ih0 _ _ _ _ _ | exact LeO.none _ | refine LeO.ite ?_ ?_ | refine LeO.bind ?_ (fun _ => ?_)
theorem spec_l1Back.mono : ∀ a0 a1 k, LeO (spec_l1Back.f k a0 a1) (spec_l1Back.f (k + 1) a0 a1) := by
  intro a0 a1 k
  have ih0 := spec_l1Back.mono_l k
  unfold spec_l1Back.f
  repeat' first | (with_reducible first | exact ih0 _ _ _ _ _ | exact LeO.refl _ | exact LeO.none _ | refine LeO.ite ?_ ?_ | refine LeO.bind ?_ (fun _ => ?_)) | exact ih0 _ _ _ _ _ | exact LeO.none _ | refine LeO.ite ?_ ?_ | refine LeO.bind ?_ (fun _ => ?_)
set_option maxHeartbeats 200000000 in
set_option maxRecDepth 100000 in
theorem spec_l1Back.calls (k : Nat) (a0_0 : Int) (A0_1 : Option Addr) (c0_1 : Nat) (l0_1 : List (S47)) (r1 : Int) (r2 : List (S47)) (w : World) (hr0_1 : Kd.C k47 w A0_1 l0_1.length l0_1) (hc0_1 : l0_1.length ≤ c0_1) (h : spec_l1Back.f k a0_0 l0_1 = some (r1, r2)) :
    Calls Try.prog 32 #[.agg #[.int .i64 a0_0, .slice A0_1 l0_1.length c0_1]] w fun e w' => ∃ v1_ : Value, e = .returned (.agg #[.int .i64 r1, v1_]) ∧ Kd.R k47 47 w' w.heap.size (fun _ => True) v1_ r2 ∧ Below w.heap.size w w' := by
  have hu25 := Try.underlying25
  have hu47 := Try.underlying47
  have HR0_1 := Aside0.mk hr0_1
  have HC0_1 := Aside0.mk hc0_1
  clear hr0_1 hc0_1
  have HB := Aside0.mk (Below.refl w.heap.size w)
  have H : (spec_l1Back.l0 k 0 a0_0 l0_1 a0_0 ([] : List (S47))) = some (r1, r2) := h
  clear h
  have H' := Aside0.mk H
  clear H
  go_enter Try.func32, Try.ntmps32
  go_wp2_with (first | ((with_reducible refine gate_dst (N := 1) rfl ?_); refine bx_ 1 #[.int .i64 a0_0, .slice A0_1 l0_1.length c0_1] 25 ?_; intro gb261 hg w2 hbox hb; have BK261 := Aside0.mk (hbox); have GW261 := Aside0.mk (zs_ hg (ne_ HB.out)); have GE261 := Aside0.mk (zs_ hg (ne_ HB.out)); replace HB := kB_ HB hb; clear hb hbox hg) | ((with_reducible refine gate_dst (N := 2) rfl ?_); refine bx_ 2 #[.int .i64 0, .slice none 0 0] 25 ?_; intro gb262 hg w3 hbox hb; have BK262 := Aside0.mk (hbox); have GW262 := Aside0.mk (zs_ hg (ne_ HB.out)); have GE262 := Aside0.mk (zs_ hg (ne_ HB.out)); have NB261_262 := Aside0.mk (nl_ BK261.out hg); have NB262_261 := Aside0.mk (nm_ BK261.out hg); replace BK261 := kb_ BK261 hb; replace HB := kB_ HB hb; clear hb hbox hg; have hnb4 := NB261_262.out; have hnc4 := NB262_261.out; obtain ⟨hcz5_0, hcz5_1, hfz5_0, hfz5_1⟩ := cz2_ BK261.out) | ((with_reducible refine gate_dst (N := 3) rfl ?_); refine bx_ 3 #[.int .i64 0, .slice none 0 0] 25 ?_; intro gb263 hg w6 hbox hb; have BK263 := Aside0.mk (hbox); have GW263 := Aside0.mk (zs_ hg (ne_ HB.out)); have GE263 := Aside0.mk (zs_ hg (ne_ HB.out)); have NB261_263 := Aside0.mk (nl_ BK261.out hg); have NB263_261 := Aside0.mk (nm_ BK261.out hg); have NB262_263 := Aside0.mk (nl_ BK262.out hg); have NB263_262 := Aside0.mk (nm_ BK262.out hg); replace BK261 := kb_ BK261 hb; replace BK262 := kb_ BK262 hb; replace HB := kB_ HB hb; clear hb hbox hg; have hnb7 := NB263_261.out; have hnc7 := NB261_263.out; have hnb8 := NB263_262.out; have hnc8 := NB262_263.out; obtain ⟨hcz9_0, hcz9_1, hfz9_0, hfz9_1⟩ := cz2_ BK263.out))
  go_loopg [4] k (fun kq v4 w' => ∃ (x4_1 : Int) (x264001_1 : List (S47)) (u264001 : Value), v4 = .int .i64 x4_1 ∧ Aside0 (spec_l1Back.l0 kq x4_1 a0_0 l0_1 a0_0 x264001_1 = some (r1, r2)) ∧ Aside0 (kq ≤ k) ∧ Aside0 (Kd.R k47 47 w' w.heap.size (fun _ => True) u264001 x264001_1) ∧ Aside0 (w'.heap[gb261]? = some (.cells #[.int .i64 a0_0, (.slice A0_1 l0_1.length c0_1)] 25 (0, 0))) ∧ Aside0 (w'.heap[gb262]? = some (.cells #[.int .i64 0, (.slice none 0 0)] 25 (0, 0))) ∧ Aside0 (w'.heap[gb263]? = some (.cells #[.int .i64 a0_0, u264001] 25 (0, 0))) ∧ Aside0 (Below w.heap.size w w'))
  case atStart => exact ⟨(0), (([] : List (S47))), (.slice none 0 0), ns_, H', ⟨Nat.le_refl _⟩, ⟨by first | exact Kd.R_nil _ _ _ _ _ | exact Kd.N_nil _ _ _ _ _ | exact Kd.V_nil _ _ _ _ _ | exact Kd.Q_nil _ _ _ _ _ | exact Kd.S_nil _ _ _ _ _⟩, ⟨np_ BK261.out⟩, ⟨np_ BK262.out⟩, ⟨np_ BK263.out⟩, ⟨ne_ HB.out⟩⟩
  case round =>
   clear H'
   try clear hcz5_0
   try clear hcz5_1
   try clear hcz9_0
   try clear hcz9_1
   try clear hfz5_0
   try clear hfz5_1
   try clear hfz9_0
   try clear hfz9_1
   obtain ⟨x4_1, x264001_1, u264001, rfl, HA, HK1, HO_264001, BK261, BK262, BK263, HB⟩ := hrel
   cases gk with
   | zero => exact absurd HA.out (by simp [spec_l1Back.l0])
   | succ k1 =>
    have H := HA.out
    clear HA
    simp only [spec_l1Back.l0] at H
    by_cases c10 : x4_1 < (l0_1.length : Int)
    rotate_left
    ·rw [if_neg c10] at H
     have c10b0 : decide (x4_1 < (l0_1.length : Int)) = false := decide_eq_false c10
     clear c10
     simp only [Option.some.injEq, Prod.mk.injEq] at H
     obtain ⟨rfl, rfl⟩ := H
     have hnb26 := NB261_262.out
     have hnc26 := NB262_261.out
     have hnb27 := NB261_263.out
     have hnc27 := NB263_261.out
     obtain ⟨hcz28_0, hcz28_1, hfz28_0, hfz28_1⟩ := cz2_ BK261.out
     have hnb29 := NB263_262.out
     have hnc29 := NB262_263.out
     obtain ⟨hcz30_0, hcz30_1, hfz30_0, hfz30_1⟩ := cz2_ BK263.out
     obtain ⟨hcz31_0, hcz31_1, hfz31_0, hfz31_1⟩ := cz2_ BK262.out
     obtain ⟨Ao32, co32, eo32⟩ := Kd.R_slice HO_264001.out
     subst eo32
     go_wp2
     refine bodyPost_ret (results_cell_row rfl _ _ gb262 25 #[.int .i64 a0_0, .slice Ao32 x264001_1.length co32] (0, 0) _ rfl (np_ BK262.out) Try.underlying25 rfl (by kernel_rfl)) rfl ?_
     exact ⟨_, nw_, by (with_reducible repeat (first | apply Kd.R_alloc | apply Kd.R_drewN | apply Kd.R_drew)); exact Kd.R_mono (rf2_ (Kd.R_types HO_264001.out BK262.out (by decide))) (fun _ hk => trivial), ne_ HB.out⟩

    rw [if_pos c10] at H
    have c10b0 : decide (x4_1 < (l0_1.length : Int)) = true := decide_eq_true c10
    clear c10
    by_cases c11 : 0 ≤ x4_1
    rotate_left
    ·rw [if_neg c11] at H
     exact absurd H (by simp)
    rw [if_pos c11] at H
    have c11b0 : decide (0 ≤ x4_1) = true := decide_eq_true c11
    clear c11
    by_cases c12 : x264001_1.length < 3518437208883
    rotate_left
    ·rw [if_neg c12] at H
     exact absurd H (by simp)
    rw [if_pos c12] at H
    have LMc12 := Aside0.mk c12
    clear c12
    obtain ⟨y266, hy266⟩ : ∃ y_ : List (S47), y_ = (x264001_1 ++ [(⟨(rd_T47 l0_1 x4_1).f1, (rd_T47 l0_1 x4_1).f0, (rd_T47 l0_1 x4_1).f2, (rd_T47 l0_1 x4_1).f3, (rd_T47 l0_1 x4_1).f4⟩ : S47)]) := ⟨_, rfl⟩
    replace H : (spec_l1Back.l0 k1 (wrap64 (x4_1 + 1)) a0_0 l0_1 a0_0 y266) = some (r1, r2) := by first | (rw [hy266]; with_reducible exact H) | (have H2_ := (Option.bind_some _ _).symm.trans H; rw [hy266]; with_reducible exact H2_) | (have H2_ := (Option.bind_some _ _).symm.trans H; with_reducible exact H2_) | with_reducible exact H | (rw [hy266]; exact H) | exact H
    have Ny266 := Aside0.mk hy266
    clear hy266
    have H' := Aside0.mk H
    clear H
    have hnb13 := NB261_262.out
    have hnc13 := NB262_261.out
    have hnb14 := NB261_263.out
    have hnc14 := NB263_261.out
    obtain ⟨hcz15_0, hcz15_1, hfz15_0, hfz15_1⟩ := cz2_ BK261.out
    have p264 : 0 ≤ (x4_1 : Int) := of_decide_eq_true nx_
    have q264 : x4_1 < (l0_1.length : Int) := of_decide_eq_true nx_
    obtain ⟨ad264, e264, hx264_0, hx264_1, hx264_2, hx264_3, hx264_4⟩ := at_T47 HR0_1.out x4_1 p264 q264
    cases e264
    replace hx264_0 := hb_ HB.out hx264_0
    replace hx264_1 := hb_ HB.out hx264_1
    replace hx264_2 := hb_ HB.out hx264_2
    replace hx264_3 := hb_ HB.out hx264_3
    replace hx264_4 := hb_ HB.out hx264_4
    replace p264 := eq_true p264
    replace q264 := eq_true q264
    go_wp2_with (first | ((with_reducible refine gate_dst (N := 5) rfl ?_); refine bx_ 5 #[.int .i64 0, .int .i64 0, .int .i64 0, .int .i64 0, .int .i64 0] 47 ?_; intro gb265 hg w16 hbox hb; have BK265 := Aside0.mk (hbox); have GW265 := Aside0.mk (zs_ hg (ne_ HB.out)); have GE265 := Aside0.mk (zs_ hg (ne_ HB.out)); have NB261_265 := Aside0.mk (nl_ BK261.out hg); have NB265_261 := Aside0.mk (nm_ BK261.out hg); have NB262_265 := Aside0.mk (nl_ BK262.out hg); have NB265_262 := Aside0.mk (nm_ BK262.out hg); have NB263_265 := Aside0.mk (nl_ BK263.out hg); have NB265_263 := Aside0.mk (nm_ BK263.out hg); replace HO_264001 := Aside0.mk (Kd.R_below (Kd.R_elderB (nr_ HO_264001.out) gb265 (Nat.le_of_eq hg.symm)) hb); replace BK261 := kb_ BK261 hb; replace BK262 := kb_ BK262 hb; replace BK263 := kb_ BK263 hb; replace HB := kB_ HB hb; clear hb hbox hg; have hnb17 := NB265_261.out; have hnc17 := NB261_265.out; have hnb18 := NB265_262.out; have hnc18 := NB262_265.out; have hnb19 := NB265_263.out; have hnc19 := NB263_265.out; obtain ⟨hcz20_0, hcz20_1, hcz20_2, hcz20_3, hcz20_4, hfz20_0, hfz20_1, hfz20_2, hfz20_3, hfz20_4⟩ := cz5_ BK265.out; have hnb21 := NB263_262.out; have hnc21 := NB262_263.out; obtain ⟨hcz22_0, hcz22_1, hfz22_0, hfz22_1⟩ := cz2_ BK263.out) | ((with_reducible refine gate_builtin (b := .append) (xs := #[.tmp 22, .tmp 34]) rfl ?_); at_builtin; refine Kd.R_append k47 (w0 := w) w.heap.size rfl (.tmp 22) (.tmp 34) 23 47 (.agg #[(.int .i64 0), (.int .i64 0), (.int .i64 0), (.int .i64 0), (.int .i64 0)]) 40 rfl Try.underlying23 info47 rfl (by decide) (by omega) u264001 x264001_1 (⟨(rd_T47 l0_1 x4_1).f1, (rd_T47 l0_1 x4_1).f0, (rd_T47 l0_1 x4_1).f2, (rd_T47 l0_1 x4_1).f3, (rd_T47 l0_1 x4_1).f4⟩ : S47) [.int .i64 ((rd_T47 l0_1 x4_1).f1), .int .i64 ((rd_T47 l0_1 x4_1).f0), .int .i64 ((rd_T47 l0_1 x4_1).f2), .int .i64 ((rd_T47 l0_1 x4_1).f3), .int .i64 ((rd_T47 l0_1 x4_1).f4)] (fun k_ => k_ ≠ gb265) (fun _ => False) rfl (by first | (go_simp; done) | (go_simp; rfl)) ?aP (fun _ hk => hk.elim) ?aF ?aO ?aB ?aS ?aL ?_; (case aP => exact k47_mkM _ _ _ (⟨(rd_T47 l0_1 x4_1).f1, (rd_T47 l0_1 x4_1).f0, (rd_T47 l0_1 x4_1).f2, (rd_T47 l0_1 x4_1).f3, (rd_T47 l0_1 x4_1).f4⟩ : S47)); (case aB => exact (ne_ HB.out)); (case aF => exact (fun k_ hk => Kd.freshB (g := gb265) (o := .cells #[.int .i64 ((rd_T47 l0_1 x4_1).f0), .int .i64 ((rd_T47 l0_1 x4_1).f1), .int .i64 ((rd_T47 l0_1 x4_1).f2), .int .i64 ((rd_T47 l0_1 x4_1).f3), .int .i64 ((rd_T47 l0_1 x4_1).f4)] 47 (0, 0)) (np_ BK265.out) k_ hk)); (case aO => exact (by (with_reducible repeat (first | apply Kd.R_alloc | apply Kd.R_drewN | apply Kd.R_drew)); exact Kd.R_mono (rf5_ (Kd.R_mono HO_264001.out (fun k_ hk => (⟨hk, hk.2⟩ : _ ∧ k_ ≠ gb265)))) (fun _ hk => by first | exact hk.1.2 | trivial | simp_all))); (case aS => exact (below_size (ne_ HB.out))); (case aL => have := LMc12.out; omega); intro v267 w23 ho hb hg hat; rw [← Ny266.out] at ho; have HO268 := Aside0.mk (ho); replace BK261 := Aside0.mk (blk_grown (g := gb261) (o := .cells #[.int .i64 a0_0, .slice (some ad264) l0_1.length c0_1] 25 (0, 0)) (nbf_ BK261.out) hg (Kd.R_ne HO_264001.out BK261.out (by decide))); replace BK262 := Aside0.mk (blk_grown (g := gb262) (o := .cells #[.int .i64 0, .slice none 0 0] 25 (0, 0)) (nbf_ BK262.out) hg (Kd.R_ne HO_264001.out BK262.out (by decide))); replace BK263 := Aside0.mk (blk_grown (g := gb263) (o := .cells #[.int .i64 a0_0, u264001] 25 (0, 0)) (nbf_ BK263.out) hg (Kd.R_ne HO_264001.out BK263.out (by decide))); replace BK265 := Aside0.mk (blk_grown (g := gb265) (o := .cells #[.int .i64 ((rd_T47 l0_1 x4_1).f0), .int .i64 ((rd_T47 l0_1 x4_1).f1), .int .i64 ((rd_T47 l0_1 x4_1).f2), .int .i64 ((rd_T47 l0_1 x4_1).f3), .int .i64 ((rd_T47 l0_1 x4_1).f4)] 47 (0, 0)) (np_ BK265.out) hg (Kd.R_away HO_264001.out (fun _ hk => hk.2))); replace HB := Aside0.mk (hb); clear HO_264001; clear ho hb hg hat; obtain ⟨Ao24, co24, eo24⟩ := Kd.R_slice HO268.out; subst eo24; obtain ⟨hcz25_0, hcz25_1, hfz25_0, hfz25_1⟩ := cz2_ BK263.out))
    go_roundg k1
    case measure => have := HK1.out; omega
    case rel => exact ⟨(wrap64 (x4_1 + 1)), (y266), (.slice Ao24 y266.length co24), ns_, H', ⟨by have := HK1.out; omega⟩, ⟨by (with_reducible repeat (first | apply Kd.R_alloc | apply Kd.R_drewN | apply Kd.R_drew)); exact Kd.R_mono (Kd.R_far (p := ⟨gb263, 1, none⟩) (Kd.R_types HO268.out BK263.out (by decide)) (fun _ hk => hk.2) (.slice Ao24 y266.length co24)) (fun _ hk => trivial)⟩, ⟨np_ BK261.out⟩, ⟨np_ BK262.out⟩, ⟨np_ BK263.out⟩, ⟨ne_ HB.out⟩⟩
end Go.Proofs.Ytgnnimhhkbbfiaa.Print
