-- Made by this session's own program (wip/patch_print.py, over the kit's print). Lean checks it.
import Derived.Test.YtgnnimhhkbbfiaaPrint0
import Derived.Test.YtgnnimhhkbbfiaaPrintF15
import Derived.Test.YtgnnimhhkbbfiaaPrintF16
namespace Go.Proofs.Ytgnnimhhkbbfiaa.Print
open Go.RowKit Go.Proofs.YtgnnimhhkbbfiaaW.PrintWords Go.Proofs.YtgnnimhhkbbfiaaW.PrintLast Go.Proofs.YtgnnimhhkbbfiaaW.PrintMore Go.Proofs.YtgnnimhhkbbfiaaX
attribute [local go_sem] max2_int min2_int max_two min_two max_three min_three max_four min_four   -- for this text's walks alone
set_option linter.unusedVariables false
set_option linter.unusedSimpArgs false

/-! ### impl_NearWalk: function 5 -/
def impl_NearWalk.f (k : Nat) (a0_0 : Int) (l0_1 : List (S47)) (a1 : Int) (a2 : Int) : Option (List Int × Bool) := (impl_nodesIn.f a0_0 l0_1 (([a1, a2] : List Int))).bind fun t234 => (if t234 = true then ((impl_Net_best.f k a0_0 l0_1 a1 a2).bind fun bt235 => (some (bt235.1, bt235.2))) else (some (([] : List Int), false)))
theorem impl_NearWalk.mono : ∀ a0 a1 a2 a3 k, LeO (impl_NearWalk.f k a0 a1 a2 a3) (impl_NearWalk.f (k + 1) a0 a1 a2 a3) := by
  intro a0 a1 a2 a3 k
  unfold impl_NearWalk.f
  repeat' first | (with_reducible first | exact impl_Net_best.mono _ _ _ _ _ | exact LeO.refl _ | exact LeO.none _ | refine LeO.ite ?_ ?_ | refine LeO.bind ?_ (fun _ => ?_)) | exact impl_Net_best.mono _ _ _ _ _ | exact LeO.none _ | refine LeO.ite ?_ ?_ | refine LeO.bind ?_ (fun _ => ?_)
set_option maxHeartbeats 200000000 in
set_option maxRecDepth 100000 in
theorem impl_NearWalk.calls (k : Nat) (a0_0 : Int) (A0_1 : Option Addr) (c0_1 : Nat) (l0_1 : List (S47)) (a1 : Int) (a2 : Int) (r1 : List Int) (r2 : Bool) (w : World) (hr0_1 : Kd.C k47 w A0_1 l0_1.length l0_1) (hc0_1 : l0_1.length ≤ c0_1) (h : impl_NearWalk.f k a0_0 l0_1 a1 a2 = some (r1, r2)) :
    Calls Try.prog 5 #[.agg #[.int .i64 a0_0, .slice A0_1 l0_1.length c0_1], .int .i64 a1, .int .i64 a2] w fun e w' => ∃ v0_ : Value, e = .returned (.tuple #[v0_, .bool r2]) ∧ Kd.R (Kd.int .i64) 3 w' w.heap.size (fun _ => True) v0_ r1 ∧ Below w.heap.size w w' := by
  have hu25 := Try.underlying25
  have HR0_1 := Aside0.mk hr0_1
  have HC0_1 := Aside0.mk hc0_1
  clear hr0_1 hc0_1
  have HB := Aside0.mk (Below.refl w.heap.size w)
  have H : ((impl_nodesIn.f a0_0 l0_1 (([a1, a2] : List Int))).bind fun t234 => (if t234 = true then ((impl_Net_best.f k a0_0 l0_1 a1 a2).bind fun bt235 => (some (bt235.1, bt235.2))) else (some (([] : List Int), false)))) = some (r1, r2) := h
  clear h
  obtain ⟨y231, hy231⟩ : ∃ y_ : List Int, y_ = (([a1, a2] : List Int)) := ⟨_, rfl⟩
  replace H : ((impl_nodesIn.f a0_0 l0_1 y231).bind fun t234 => (if t234 = true then ((impl_Net_best.f k a0_0 l0_1 a1 a2).bind fun bt235 => (some (bt235.1, bt235.2))) else (some (([] : List Int), false)))) = some (r1, r2) := by first | (rw [hy231]; with_reducible exact H) | (have H2_ := (Option.bind_some _ _).symm.trans H; rw [hy231]; with_reducible exact H2_) | (have H2_ := (Option.bind_some _ _).symm.trans H; with_reducible exact H2_) | with_reducible exact H | (rw [hy231]; exact H) | exact H
  have Ny231 := Aside0.mk hy231
  clear hy231
  replace H := Option.bind_eq_some_iff.mp H
  obtain ⟨t234, A40, H⟩ := H
  try dsimp only at H
  have A4 := Aside0.mk A40
  clear A40
  by_cases c5 : t234 = true
  rotate_left
  ·replace c5 := Bool.eq_false_iff.mpr c5
   subst c5
   have H1 : (some (([] : List Int), false)) = some (r1, r2) := by rw [if_neg (show ¬ (false = true) by decide)] at H; exact H
   clear H
   have H := H1
   clear H1
   simp only [Option.some.injEq, Prod.mk.injEq] at H
   obtain ⟨rfl, rfl⟩ := H
   go_enter Try.func5, Try.ntmps5
   go_wp2_with (first | ((with_reducible refine gate_dst (N := 3) rfl ?_); refine bx_ 3 #[.int .i64 a0_0, .slice A0_1 l0_1.length c0_1] 25 ?_; intro gb230 hg w15 hbox hb; have BK230 := Aside0.mk (hbox); have GW230 := Aside0.mk (zs_ hg (ne_ HB.out)); have GE230 := Aside0.mk (zs_ hg (ne_ HB.out)); replace HB := kB_ HB hb; clear hb hbox hg; obtain ⟨hcz16_0, hcz16_1, hfz16_0, hfz16_1⟩ := cz2_ BK230.out) | ((with_reducible refine gate_dst (N := 11) rfl ?_); refine li_ 11 3 [a1, a2] [.int .i64 a1, .int .i64 a2] ?_; intro v232 w17 ho18 hb hg_ hnew_; clear hg_ hnew_; (first | rw [← Ny231.out] at ho18 | (simp only [Int.reduceToNat] at ho18; rw [← Ny231.out] at ho18)); have HO233 := Aside0.mk (Kd.R_lower ho18 (below_size (ne_ HB.out))); replace BK230 := kb_ BK230 hb; replace HB := kB_ HB hb; clear hb ho18; obtain ⟨Ao19, co19, eo19⟩ := Kd.R_slice HO233.out; subst eo19) | ((with_reducible refine gate_callee (f := 15) rfl ?_); refine gl_ (some 12) Try.func15 #[.agg #[.int .i64 a0_0, .slice A0_1 l0_1.length c0_1], .slice Ao19 y231.length co19] ?_; (with_reducible refine (impl_nodesIn.calls a0_0 _ _ l0_1 _ _ y231 false _ ?side1 ?side2 ?side3 ?side4 A4.out).mono ?_); (case side1 => exact nc_ (Kd.C_below HR0_1.out HB.out)); (case side2 => exact HC0_1.out); (case side3 => exact nc_ (Kd.R_reads' HO233.out).2.2); (case side4 => exact (Kd.R_reads' HO233.out).2.1); rintro e w20 ⟨rfl, hb⟩; refine ⟨_, rfl, ?_⟩; replace HO233 := kR_ HO233 hb; replace BK230 := kb_ BK230 hb; replace HB := kB_ HB hb; (try clear hb); (try clear hb2); (try clear hk); (try clear hi)))
   go_ret2
   exact ⟨_, nw_, by first | exact Kd.R_nil _ _ _ _ _ | exact Kd.N_nil _ _ _ _ _ | exact Kd.V_nil _ _ _ _ _ | exact Kd.Q_nil _ _ _ _ _ | exact Kd.S_nil _ _ _ _ _, ne_ HB.out⟩

  subst c5
  rw [if_pos rfl] at H
  replace H := Option.bind_eq_some_iff.mp H
  obtain ⟨⟨t235, t238⟩, A60, H⟩ := H
  replace H : (some (t235, t238)) = some (r1, r2) := H
  have A6 := Aside0.mk A60
  clear A60
  simp only [Option.some.injEq, Prod.mk.injEq] at H
  obtain ⟨rfl, rfl⟩ := H
  go_enter Try.func5, Try.ntmps5
  go_wp2_with (first | ((with_reducible refine gate_dst (N := 3) rfl ?_); refine bx_ 3 #[.int .i64 a0_0, .slice A0_1 l0_1.length c0_1] 25 ?_; intro gb230 hg w7 hbox hb; have BK230 := Aside0.mk (hbox); have GW230 := Aside0.mk (zs_ hg (ne_ HB.out)); have GE230 := Aside0.mk (zs_ hg (ne_ HB.out)); replace HB := kB_ HB hb; clear hb hbox hg; obtain ⟨hcz8_0, hcz8_1, hfz8_0, hfz8_1⟩ := cz2_ BK230.out) | ((with_reducible refine gate_dst (N := 11) rfl ?_); refine li_ 11 3 [a1, a2] [.int .i64 a1, .int .i64 a2] ?_; intro v232 w9 ho10 hb hg_ hnew_; clear hg_ hnew_; (first | rw [← Ny231.out] at ho10 | (simp only [Int.reduceToNat] at ho10; rw [← Ny231.out] at ho10)); have HO233 := Aside0.mk (Kd.R_lower ho10 (below_size (ne_ HB.out))); replace BK230 := kb_ BK230 hb; replace HB := kB_ HB hb; clear hb ho10; obtain ⟨Ao11, co11, eo11⟩ := Kd.R_slice HO233.out; subst eo11) | ((with_reducible refine gate_callee (f := 15) rfl ?_); refine gl_ (some 12) Try.func15 #[.agg #[.int .i64 a0_0, .slice A0_1 l0_1.length c0_1], .slice Ao11 y231.length co11] ?_; (with_reducible refine (impl_nodesIn.calls a0_0 _ _ l0_1 _ _ y231 true _ ?side1 ?side2 ?side3 ?side4 A4.out).mono ?_); (case side1 => exact nc_ (Kd.C_below HR0_1.out HB.out)); (case side2 => exact HC0_1.out); (case side3 => exact nc_ (Kd.R_reads' HO233.out).2.2); (case side4 => exact (Kd.R_reads' HO233.out).2.1); rintro e w12 ⟨rfl, hb⟩; refine ⟨_, rfl, ?_⟩; replace HO233 := kR_ HO233 hb; replace BK230 := kb_ BK230 hb; replace HB := kB_ HB hb; (try clear hb); (try clear hb2); (try clear hk); (try clear hi); obtain ⟨hcz13_0, hcz13_1, hfz13_0, hfz13_1⟩ := cz2_ BK230.out) | ((with_reducible refine gate_callee (f := 16) rfl ?_); refine gl_ (some 17) Try.func16 #[.agg #[.int .i64 a0_0, .slice A0_1 l0_1.length c0_1], .int .i64 a1, .int .i64 a2] ?_; (with_reducible refine (impl_Net_best.calls k a0_0 _ _ l0_1 a1 a2 t235 t238 _ ?side1 ?side2 A6.out).mono ?_); (case side1 => exact nc_ (Kd.C_below HR0_1.out HB.out)); (case side2 => exact HC0_1.out); rintro e w14 ⟨v236, rfl, ho0, hb⟩; refine ⟨_, rfl, ?_⟩; have HO237 := Aside0.mk (Kd.R_lower (Kd.R_new' ho0 (Kd.R_lt (nr_ HO233.out))) (below_size (ne_ HB.out))); replace HO233 := Aside0.mk (Kd.R_elder' (nr_ HO233.out) (Kd.R_base ho0) hb); replace BK230 := kb_ BK230 hb; replace HB := kB_ HB hb; (try clear hb); (try clear hb2); (try clear hk); (try clear hi); (try clear ho0)))
  go_ret2
  exact ⟨_, nw_, by (with_reducible repeat (first | apply Kd.R_alloc | apply Kd.R_drewN | apply Kd.R_drew)); exact Kd.R_mono HO237.out (fun _ hk => trivial), ne_ HB.out⟩
end Go.Proofs.Ytgnnimhhkbbfiaa.Print
