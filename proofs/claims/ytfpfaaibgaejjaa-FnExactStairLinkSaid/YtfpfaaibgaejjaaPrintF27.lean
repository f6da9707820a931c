-- Made by this session's own program (wip/patch_print.py, over the kit's print). Lean checks it.
import Derived.Test.YtfpfaaibgaejjaaPrint0
import Derived.Test.YtfpfaaibgaejjaaPrintF17
import Derived.Test.YtfpfaaibgaejjaaPrintF35
namespace Go.Proofs.Ytfpfaaibgaejjaa.Print
open Go.RowKit Go.Proofs.YtfpfaaibgaejjaaW.PrintWords Go.Proofs.YtfpfaaibgaejjaaW.PrintLast Go.Proofs.YtfpfaaibgaejjaaW.PrintMore Go.Proofs.YtfpfaaibgaejjaaX
attribute [local go_sem] max2_int min2_int max_two min_two max_three min_three max_four min_four   -- for this text's walks alone
set_option linter.unusedVariables false
set_option linter.unusedSimpArgs false

/-! ### spec_StairBest: function 27 -/
def spec_StairBest.f (k : Nat) (l0 : List (S36)) (l1 : List (S36)) : Option ((List (S36)) × Bool) := (spec_l5Ok.f k l0).bind fun t523 => (if t523 = true then ((spec_l5Ok.f k l1).bind fun t524 => (if t524 = true then ((some (([] : List (S36)) : List (S36))).bind fun y525 => (if y525.length + l0.length < 8796093022208 then ((some (y525 ++ l0 : List (S36))).bind fun y528 => (if y528.length + l1.length < 8796093022208 then ((spec_StairOf.f k (y528 ++ l1)).bind fun bt534 => (some (bt534.1, bt534.2))) else (none))) else (none))) else (some (([] : List (S36)), false)))) else (some (([] : List (S36)), false)))
theorem spec_StairBest.mono : ∀ a0 a1 k, LeO (spec_StairBest.f k a0 a1) (spec_StairBest.f (k + 1) a0 a1) := by
  intro a0 a1 k
  unfold spec_StairBest.f
  repeat' first | (with_reducible first | exact spec_StairOf.mono _ _ | exact spec_l5Ok.mono _ _ | exact LeO.refl _ | exact LeO.none _ | refine LeO.ite ?_ ?_ | refine LeO.bind ?_ (fun _ => ?_)) | exact spec_StairOf.mono _ _ | exact spec_l5Ok.mono _ _ | exact LeO.none _ | refine LeO.ite ?_ ?_ | refine LeO.bind ?_ (fun _ => ?_)
set_option maxHeartbeats 200000000 in
set_option maxRecDepth 100000 in
theorem spec_StairBest.calls (k : Nat) (A0 : Option Addr) (c0 : Nat) (l0 : List (S36)) (A1 : Option Addr) (c1 : Nat) (l1 : List (S36)) (r1 : List (S36)) (r2 : Bool) (w : World) (hr0 : Kd.C k36 w A0 l0.length l0) (hc0 : l0.length ≤ c0) (hr1 : Kd.C k36 w A1 l1.length l1) (hc1 : l1.length ≤ c1) (h : spec_StairBest.f k l0 l1 = some (r1, r2)) :
    Calls Try.prog 27 #[.slice A0 l0.length c0, .slice A1 l1.length c1] w fun e w' => ∃ v0_ : Value, e = .returned (.tuple #[v0_, .bool r2]) ∧ Kd.R k36 36 w' w.heap.size (fun _ => True) v0_ r1 ∧ Below w.heap.size w w' := by
  have HR0 := Aside0.mk hr0
  have HC0 := Aside0.mk hc0
  clear hr0 hc0
  have HR1 := Aside0.mk hr1
  have HC1 := Aside0.mk hc1
  clear hr1 hc1
  have HB := Aside0.mk (Below.refl w.heap.size w)
  have H : ((spec_l5Ok.f k l0).bind fun t523 => (if t523 = true then ((spec_l5Ok.f k l1).bind fun t524 => (if t524 = true then ((some (([] : List (S36)) : List (S36))).bind fun y525 => (if y525.length + l0.length < 8796093022208 then ((some (y525 ++ l0 : List (S36))).bind fun y528 => (if y528.length + l1.length < 8796093022208 then ((spec_StairOf.f k (y528 ++ l1)).bind fun bt534 => (some (bt534.1, bt534.2))) else (none))) else (none))) else (some (([] : List (S36)), false)))) else (some (([] : List (S36)), false)))) = some (r1, r2) := h
  clear h
  replace H := Option.bind_eq_some_iff.mp H
  obtain ⟨t523, A30, H⟩ := H
  try dsimp only at H
  have A3 := Aside0.mk A30
  clear A30
  by_cases c4 : t523 = true
  rotate_left
  ·replace c4 := Bool.eq_false_iff.mpr c4
   subst c4
   have H1 : (some (([] : List (S36)), false)) = some (r1, r2) := by rw [if_neg (show ¬ (false = true) by decide)] at H; exact H
   clear H
   have H := H1
   clear H1
   simp only [Option.some.injEq, Prod.mk.injEq] at H
   obtain ⟨rfl, rfl⟩ := H
   go_enter Try.func27, Try.ntmps27
   go_wp2_with (first | ((with_reducible refine gate_callee (f := 35) rfl ?_); refine gl_ (some 7) Try.func35 #[.slice A0 l0.length c0] ?_; (with_reducible refine (spec_l5Ok.calls k _ _ l0 false _ ?side1 ?side2 A3.out).mono ?_); (case side1 => repeat (first | exact HR0.out | (with_reducible refine Kd.C_alloc ?_ _) | (with_reducible refine Kd.C_drewN ?_ _) | (with_reducible refine Kd.C_drew ?_))); (case side2 => exact HC0.out); rintro e w20 ⟨rfl, hb⟩; refine ⟨_, rfl, ?_⟩; replace HB := kB_ HB hb; (try clear hb); (try clear hb2); (try clear hk); (try clear hi)))
   go_ret2
   exact ⟨_, nw_, by first | exact Kd.R_nil _ _ _ _ _ | exact Kd.N_nil _ _ _ _ _ | exact Kd.V_nil _ _ _ _ _ | exact Kd.Q_nil _ _ _ _ _ | exact Kd.S_nil _ _ _ _ _, ne_ HB.out⟩

  subst c4
  rw [if_pos rfl] at H
  replace H := Option.bind_eq_some_iff.mp H
  obtain ⟨t524, A50, H⟩ := H
  try dsimp only at H
  have A5 := Aside0.mk A50
  clear A50
  by_cases c6 : t524 = true
  rotate_left
  ·replace c6 := Bool.eq_false_iff.mpr c6
   subst c6
   have H1 : (some (([] : List (S36)), false)) = some (r1, r2) := by rw [if_neg (show ¬ (false = true) by decide)] at H; exact H
   clear H
   have H := H1
   clear H1
   simp only [Option.some.injEq, Prod.mk.injEq] at H
   obtain ⟨rfl, rfl⟩ := H
   go_enter Try.func27, Try.ntmps27
   go_wp2_with (first | ((with_reducible refine gate_callee (f := 35) rfl ?_); refine gl_ (some 7) Try.func35 #[.slice A0 l0.length c0] ?_; (with_reducible refine (spec_l5Ok.calls k _ _ l0 true _ ?side1 ?side2 A3.out).mono ?_); (case side1 => repeat (first | exact HR0.out | (with_reducible refine Kd.C_alloc ?_ _) | (with_reducible refine Kd.C_drewN ?_ _) | (with_reducible refine Kd.C_drew ?_))); (case side2 => exact HC0.out); rintro e w18 ⟨rfl, hb⟩; refine ⟨_, rfl, ?_⟩; replace HB := kB_ HB hb; (try clear hb); (try clear hb2); (try clear hk); (try clear hi)) | (go_at_call 35; (with_reducible refine (spec_l5Ok.calls k _ _ l1 false _ ?side1 ?side2 A5.out).mono ?_); (case side1 => exact nc_ (Kd.C_below HR1.out HB.out)); (case side2 => exact HC1.out); rintro e w19 ⟨rfl, hb⟩; replace HB := kB_ HB hb; (try clear hb); (try clear hb2); (try clear hk); (try clear hi)))
   go_ret2
   exact ⟨_, nw_, by first | exact Kd.R_nil _ _ _ _ _ | exact Kd.N_nil _ _ _ _ _ | exact Kd.V_nil _ _ _ _ _ | exact Kd.Q_nil _ _ _ _ _ | exact Kd.S_nil _ _ _ _ _, ne_ HB.out⟩
  subst c6
  rw [if_pos rfl] at H
  obtain ⟨y525, hy525⟩ : ∃ y_ : List (S36), y_ = (([] : List (S36))) := ⟨_, rfl⟩
  replace H : (if y525.length + l0.length < 8796093022208 then ((some (y525 ++ l0 : List (S36))).bind fun y528 => (if y528.length + l1.length < 8796093022208 then ((spec_StairOf.f k (y528 ++ l1)).bind fun bt534 => (some (bt534.1, bt534.2))) else (none))) else (none)) = some (r1, r2) := by first | (rw [hy525]; with_reducible exact H) | (have H2_ := (Option.bind_some _ _).symm.trans H; rw [hy525]; with_reducible exact H2_) | (have H2_ := (Option.bind_some _ _).symm.trans H; with_reducible exact H2_) | with_reducible exact H | (rw [hy525]; exact H) | exact H
  have Ny525 := Aside0.mk hy525
  clear hy525
  by_cases c7 : y525.length + l0.length < 8796093022208
  rotate_left
  ·rw [if_neg c7] at H
   exact absurd H (by simp)
  rw [if_pos c7] at H
  have LMc7 := Aside0.mk c7
  clear c7
  obtain ⟨y528, hy528⟩ : ∃ y_ : List (S36), y_ = (y525 ++ l0) := ⟨_, rfl⟩
  replace H : (if y528.length + l1.length < 8796093022208 then ((spec_StairOf.f k (y528 ++ l1)).bind fun bt534 => (some (bt534.1, bt534.2))) else (none)) = some (r1, r2) := by first | (rw [hy528]; with_reducible exact H) | (have H2_ := (Option.bind_some _ _).symm.trans H; rw [hy528]; with_reducible exact H2_) | (have H2_ := (Option.bind_some _ _).symm.trans H; with_reducible exact H2_) | with_reducible exact H | (rw [hy528]; exact H) | exact H
  have Ny528 := Aside0.mk hy528
  clear hy528
  by_cases c8 : y528.length + l1.length < 8796093022208
  rotate_left
  ·rw [if_neg c8] at H
   exact absurd H (by simp)
  rw [if_pos c8] at H
  have LMc8 := Aside0.mk c8
  clear c8
  obtain ⟨y531, hy531⟩ : ∃ y_ : List (S36), y_ = (y528 ++ l1) := ⟨_, rfl⟩
  replace H : ((spec_StairOf.f k y531).bind fun bt534 => (some (bt534.1, bt534.2))) = some (r1, r2) := by first | (rw [hy531]; with_reducible exact H) | (have H2_ := (Option.bind_some _ _).symm.trans H; rw [hy531]; with_reducible exact H2_) | (have H2_ := (Option.bind_some _ _).symm.trans H; with_reducible exact H2_) | with_reducible exact H | (rw [hy531]; exact H) | exact H
  have Ny531 := Aside0.mk hy531
  clear hy531
  replace H := Option.bind_eq_some_iff.mp H
  obtain ⟨⟨t534, t535⟩, A90, H⟩ := H
  replace H : (some (t534, t535)) = some (r1, r2) := H
  have A9 := Aside0.mk A90
  clear A90
  simp only [Option.some.injEq, Prod.mk.injEq] at H
  obtain ⟨rfl, rfl⟩ := H
  go_enter Try.func27, Try.ntmps27
  go_wp2_with (first | ((with_reducible refine gate_callee (f := 35) rfl ?_); refine gl_ (some 7) Try.func35 #[.slice A0 l0.length c0] ?_; (with_reducible refine (spec_l5Ok.calls k _ _ l0 true _ ?side1 ?side2 A3.out).mono ?_); (case side1 => repeat (first | exact HR0.out | (with_reducible refine Kd.C_alloc ?_ _) | (with_reducible refine Kd.C_drewN ?_ _) | (with_reducible refine Kd.C_drew ?_))); (case side2 => exact HC0.out); rintro e w10 ⟨rfl, hb⟩; refine ⟨_, rfl, ?_⟩; replace HB := kB_ HB hb; (try clear hb); (try clear hb2); (try clear hk); (try clear hi)) | (go_at_call 35; (with_reducible refine (spec_l5Ok.calls k _ _ l1 true _ ?side1 ?side2 A5.out).mono ?_); (case side1 => exact nc_ (Kd.C_below HR1.out HB.out)); (case side2 => exact HC1.out); rintro e w11 ⟨rfl, hb⟩; replace HB := kB_ HB hb; (try clear hb); (try clear hb2); (try clear hk); (try clear hi)) | ((with_reducible refine gate_dst (N := 14) rfl ?_); refine Kd.R_lit k36 _ 36 ?hg (N := 14) ?hd (xs := ([] : List (S36))) (inner := []) (ok := fun _ => True) (okp := fun _ => True) ?hr ?hp (fun _ hk => hk) trivial (Below.refl _ _) (Nat.le_refl _) (by simp) ?_; (case hd => rfl); (case hg => rfl); (case hr => first | (go_simp; done) | (go_simp; rfl)); (case hp => exact (Reps.none _ _)); intro v526 w12 ho13 hb hg_ hnew_; clear hg_ hnew_; (first | rw [← Ny525.out] at ho13 | (simp only [Int.reduceToNat] at ho13; rw [← Ny525.out] at ho13)); have HO527 := Aside0.mk (Kd.R_lower ho13 (below_size (ne_ HB.out))); replace HB := kB_ HB hb; clear hb ho13) | ((with_reducible refine gate_builtin (b := .append) (xs := #[.tmp 14, .tmp 15]) rfl ?_); at_builtin; refine Kd.R_append_rows k36 (w0 := w) w.heap.size rfl (.tmp 14) (.tmp 15) 22 36 (.agg #[(.int .i64 0), (.int .i64 0)]) 16 rfl Try.underlying22 info36 rfl (by decide) (by omega) v526 y525 l0 _ _ _ (fun _ => True) (fun _ => False) rfl rfl ?aO ?aR (fun _ _ h => h) (fun _ h => h.elim) ?aF ?aB ?aS ?aL ?_; (case aR => repeat (first | exact (Kd.C_below HR0.out HB.out) | (with_reducible refine Kd.C_alloc ?_ _) | (with_reducible refine Kd.C_drewN ?_ _) | (with_reducible refine Kd.C_drew ?_))); (case aB => exact (ne_ HB.out)); (case aF => exact (fun _ _ => trivial)); (case aO => exact (nr_ HO527.out)); (case aS => exact (below_size (ne_ HB.out))); (case aL => have := LMc7.out; omega); intro v529 w14 ho hb hg hat; rw [← Ny528.out] at ho; have HO530 := Aside0.mk (ho); replace HB := Aside0.mk (hb); clear HO527; clear ho hb hg hat) | ((with_reducible refine gate_builtin (b := .append) (xs := #[.tmp 16, .tmp 17]) rfl ?_); at_builtin; refine Kd.R_append_rows k36 (w0 := w) w.heap.size rfl (.tmp 16) (.tmp 17) 22 36 (.agg #[(.int .i64 0), (.int .i64 0)]) 16 rfl Try.underlying22 info36 rfl (by decide) (by omega) v529 y528 l1 _ _ _ (fun _ => True) (fun _ => False) rfl rfl ?aO ?aR (fun _ _ h => h) (fun _ h => h.elim) ?aF ?aB ?aS ?aL ?_; (case aR => repeat (first | exact (Kd.C_below HR1.out HB.out) | (with_reducible refine Kd.C_alloc ?_ _) | (with_reducible refine Kd.C_drewN ?_ _) | (with_reducible refine Kd.C_drew ?_))); (case aB => exact (ne_ HB.out)); (case aF => exact (fun _ _ => trivial)); (case aO => exact (nr_ HO530.out)); (case aS => exact (below_size (ne_ HB.out))); (case aL => have := LMc8.out; omega); intro v532 w15 ho hb hg hat; rw [← Ny531.out] at ho; have HO533 := Aside0.mk (ho); replace HB := Aside0.mk (hb); clear HO530; clear ho hb hg hat; obtain ⟨Ao16, co16, eo16⟩ := Kd.R_slice HO533.out; subst eo16) | ((with_reducible refine gate_callee (f := 17) rfl ?_); refine gl_ (some 19) Try.func17 #[.slice Ao16 y531.length co16] ?_; (with_reducible refine (spec_StairOf.calls k _ _ y531 t534 t535 _ ?side1 ?side2 A9.out).mono ?_); (case side1 => exact nc_ (Kd.R_reads' HO533.out).2.2); (case side2 => exact (Kd.R_reads' HO533.out).2.1); rintro e w17 ⟨v536, rfl, ho0, hb⟩; refine ⟨_, rfl, ?_⟩; have HO537 := Aside0.mk (Kd.R_lower (Kd.R_new' ho0 (Kd.R_lt (nr_ HO533.out))) (below_size (ne_ HB.out))); replace HO533 := Aside0.mk (Kd.R_elder' (nr_ HO533.out) (Kd.R_base ho0) hb); replace HB := kB_ HB hb; (try clear hb); (try clear hb2); (try clear hk); (try clear hi); (try clear ho0)))
  go_ret2
  exact ⟨_, nw_, by (with_reducible repeat (first | apply Kd.R_alloc | apply Kd.R_drewN | apply Kd.R_drew)); exact Kd.R_mono HO537.out (fun _ hk => trivial), ne_ HB.out⟩
end Go.Proofs.Ytfpfaaibgaejjaa.Print
