-- Made by this session's own program (wip/patch_print.py, over the kit's print). Lean checks it.
import Derived.Test.YtpjmkghmjpbldaaPrint0
import Derived.Test.YtpjmkghmjpbldaaPrintF60
import Derived.Test.YtpjmkghmjpbldaaPrintF83
namespace Go.Proofs.Ytpjmkghmjpbldaa.Print
open Go.RowKit Go.Proofs.YtpjmkghmjpbldaaW.PrintWords Go.Proofs.YtpjmkghmjpbldaaW.PrintLast Go.Proofs.YtpjmkghmjpbldaaW.PrintMore Go.Proofs.YtpjmkghmjpbldaaX
attribute [local go_sem] max2_int min2_int max_two min_two max_three min_three max_four min_four   -- for this text's walks alone
set_option linter.unusedVariables false
set_option linter.unusedSimpArgs false

/-! ### spec_WalkJoin: function 54 -/
def spec_WalkJoin.f (k : Nat) (a0_0 : Int) (l0_1 : List (S37)) (l1 : List Int) (l2 : List Int) : Option (List Int × Bool) := (some (([] : List Int) : List Int)).bind fun y944 => (if y944.length + l1.length < 17592186044416 then ((some (y944 ++ l1 : List Int)).bind fun y947 => (if y947.length + l2.length < 17592186044416 then ((some (y947 ++ l2 : List Int)).bind fun y950 => ((spec_l1Ok.f k a0_0 l0_1).bind fun t953 => (if t953 = true then ((spec_l2Ok.f k a0_0 l0_1 y950).bind fun t954 => (if t954 = true then (some (y950, true)) else (some (([] : List Int), false)))) else (some (([] : List Int), false))))) else (none))) else (none))
theorem spec_WalkJoin.mono : ∀ a0 a1 a2 a3 k, LeO (spec_WalkJoin.f k a0 a1 a2 a3) (spec_WalkJoin.f (k + 1) a0 a1 a2 a3) := by
  intro a0 a1 a2 a3 k
  unfold spec_WalkJoin.f
  repeat' first | (with_reducible first | exact spec_l1Ok.mono _ _ _ | exact spec_l2Ok.mono _ _ _ _ | exact LeO.refl _ | exact LeO.none _ | refine LeO.ite ?_ ?_ | refine LeO.bind ?_ (fun _ => ?_)) | exact spec_l1Ok.mono _ _ _ | exact spec_l2Ok.mono _ _ _ _ | exact LeO.none _ | refine LeO.ite ?_ ?_ | refine LeO.bind ?_ (fun _ => ?_)
set_option maxHeartbeats 200000000 in
set_option maxRecDepth 100000 in
theorem spec_WalkJoin.calls (k : Nat) (a0_0 : Int) (A0_1 : Option Addr) (c0_1 : Nat) (l0_1 : List (S37)) (A1 : Option Addr) (c1 : Nat) (l1 : List Int) (A2 : Option Addr) (c2 : Nat) (l2 : List Int) (r1 : List Int) (r2 : Bool) (w : World) (hr0_1 : Kd.C k37 w A0_1 l0_1.length l0_1) (hc0_1 : l0_1.length ≤ c0_1) (hr1 : Kd.C (Kd.int .i64) w A1 l1.length l1) (hc1 : l1.length ≤ c1) (hr2 : Kd.C (Kd.int .i64) w A2 l2.length l2) (hc2 : l2.length ≤ c2) (h : spec_WalkJoin.f k a0_0 l0_1 l1 l2 = some (r1, r2)) :
    Calls Try.prog 54 #[.agg #[.int .i64 a0_0, .slice A0_1 l0_1.length c0_1], .slice A1 l1.length c1, .slice A2 l2.length c2] w fun e w' => ∃ v0_ : Value, e = .returned (.tuple #[v0_, .bool r2]) ∧ Kd.R (Kd.int .i64) 3 w' w.heap.size (fun _ => True) v0_ r1 ∧ Below w.heap.size w w' := by
  have hu29 := Try.underlying29
  have HR0_1 := Aside0.mk hr0_1
  have HC0_1 := Aside0.mk hc0_1
  clear hr0_1 hc0_1
  have HR1 := Aside0.mk hr1
  have HC1 := Aside0.mk hc1
  clear hr1 hc1
  have HR2 := Aside0.mk hr2
  have HC2 := Aside0.mk hc2
  clear hr2 hc2
  have HB := Aside0.mk (Below.refl w.heap.size w)
  have H : ((some (([] : List Int) : List Int)).bind fun y944 => (if y944.length + l1.length < 17592186044416 then ((some (y944 ++ l1 : List Int)).bind fun y947 => (if y947.length + l2.length < 17592186044416 then ((some (y947 ++ l2 : List Int)).bind fun y950 => ((spec_l1Ok.f k a0_0 l0_1).bind fun t953 => (if t953 = true then ((spec_l2Ok.f k a0_0 l0_1 y950).bind fun t954 => (if t954 = true then (some (y950, true)) else (some (([] : List Int), false)))) else (some (([] : List Int), false))))) else (none))) else (none))) = some (r1, r2) := h
  clear h
  obtain ⟨y944, hy944⟩ : ∃ y_ : List Int, y_ = (([] : List Int)) := ⟨_, rfl⟩
  replace H : (if y944.length + l1.length < 17592186044416 then ((some (y944 ++ l1 : List Int)).bind fun y947 => (if y947.length + l2.length < 17592186044416 then ((some (y947 ++ l2 : List Int)).bind fun y950 => ((spec_l1Ok.f k a0_0 l0_1).bind fun t953 => (if t953 = true then ((spec_l2Ok.f k a0_0 l0_1 y950).bind fun t954 => (if t954 = true then (some (y950, true)) else (some (([] : List Int), false)))) else (some (([] : List Int), false))))) else (none))) else (none)) = some (r1, r2) := by first | (rw [hy944]; with_reducible exact H) | (have H2_ := (Option.bind_some _ _).symm.trans H; rw [hy944]; with_reducible exact H2_) | (have H2_ := (Option.bind_some _ _).symm.trans H; with_reducible exact H2_) | with_reducible exact H | (rw [hy944]; exact H) | exact H
  have Ny944 := Aside0.mk hy944
  clear hy944
  by_cases c4 : y944.length + l1.length < 17592186044416
  rotate_left
  ·rw [if_neg c4] at H
   exact absurd H (by simp)

  rw [if_pos c4] at H
  have LMc4 := Aside0.mk c4
  clear c4
  obtain ⟨y947, hy947⟩ : ∃ y_ : List Int, y_ = (y944 ++ l1) := ⟨_, rfl⟩
  replace H : (if y947.length + l2.length < 17592186044416 then ((some (y947 ++ l2 : List Int)).bind fun y950 => ((spec_l1Ok.f k a0_0 l0_1).bind fun t953 => (if t953 = true then ((spec_l2Ok.f k a0_0 l0_1 y950).bind fun t954 => (if t954 = true then (some (y950, true)) else (some (([] : List Int), false)))) else (some (([] : List Int), false))))) else (none)) = some (r1, r2) := by first | (rw [hy947]; with_reducible exact H) | (have H2_ := (Option.bind_some _ _).symm.trans H; rw [hy947]; with_reducible exact H2_) | (have H2_ := (Option.bind_some _ _).symm.trans H; with_reducible exact H2_) | with_reducible exact H | (rw [hy947]; exact H) | exact H
  have Ny947 := Aside0.mk hy947
  clear hy947
  by_cases c5 : y947.length + l2.length < 17592186044416
  rotate_left
  ·rw [if_neg c5] at H
   exact absurd H (by simp)
  rw [if_pos c5] at H
  have LMc5 := Aside0.mk c5
  clear c5
  obtain ⟨y950, hy950⟩ : ∃ y_ : List Int, y_ = (y947 ++ l2) := ⟨_, rfl⟩
  replace H : ((spec_l1Ok.f k a0_0 l0_1).bind fun t953 => (if t953 = true then ((spec_l2Ok.f k a0_0 l0_1 y950).bind fun t954 => (if t954 = true then (some (y950, true)) else (some (([] : List Int), false)))) else (some (([] : List Int), false)))) = some (r1, r2) := by first | (rw [hy950]; with_reducible exact H) | (have H2_ := (Option.bind_some _ _).symm.trans H; rw [hy950]; with_reducible exact H2_) | (have H2_ := (Option.bind_some _ _).symm.trans H; with_reducible exact H2_) | with_reducible exact H | (rw [hy950]; exact H) | exact H
  have Ny950 := Aside0.mk hy950
  clear hy950
  replace H := Option.bind_eq_some_iff.mp H
  obtain ⟨t953, A60, H⟩ := H
  try dsimp only at H
  have A6 := Aside0.mk A60
  clear A60
  by_cases c7 : t953 = true
  rotate_left
  ·replace c7 := Bool.eq_false_iff.mpr c7
   subst c7
   have H1 : (some (([] : List Int), false)) = some (r1, r2) := by rw [if_neg (show ¬ (false = true) by decide)] at H; exact H
   clear H
   have H := H1
   clear H1
   simp only [Option.some.injEq, Prod.mk.injEq] at H
   obtain ⟨rfl, rfl⟩ := H
   go_enter Try.func54, Try.ntmps54
   go_wp2_with (first | ((with_reducible refine gate_dst (N := 3) rfl ?_); refine bx_ 3 #[.int .i64 a0_0, .slice A0_1 l0_1.length c0_1] 29 ?_; intro gb943 hg w30 hbox hb; have BK943 := Aside0.mk (hbox); have GW943 := Aside0.mk (zs_ hg (ne_ HB.out)); have GE943 := Aside0.mk (zs_ hg (ne_ HB.out)); replace HB := kB_ HB hb; clear hb hbox hg) | ((with_reducible refine gate_dst (N := 9) rfl ?_); refine li_ 9 3 [] [] ?_; intro v945 w31 ho32 hb hg_ hnew_; clear hg_ hnew_; (first | rw [← Ny944.out] at ho32 | (simp only [Int.reduceToNat] at ho32; rw [← Ny944.out] at ho32)); have HO946 := Aside0.mk (Kd.R_lower ho32 (below_size (ne_ HB.out))); replace BK943 := kb_ BK943 hb; replace HB := kB_ HB hb; clear hb ho32) | ((with_reducible refine gate_builtin (b := .append) (xs := #[.tmp 9, .tmp 10]) rfl ?_); at_builtin; refine Kd.R_append_rows (Kd.int .i64) (w0 := w) w.heap.size rfl (.tmp 9) (.tmp 10) 41 3 (.int .i64 0) 8 rfl Try.underlying41 info3 rfl (by decide) (by omega) v945 y944 l1 _ _ _ (fun _ => True) (fun _ => False) rfl rfl ?aO ?aR (fun _ _ h => h) (fun _ h => h.elim) ?aF ?aB ?aS ?aL ?_; (case aR => repeat (first | exact (Kd.C_below HR1.out HB.out) | (with_reducible refine Kd.C_alloc ?_ _) | (with_reducible refine Kd.C_drewN ?_ _) | (with_reducible refine Kd.C_drew ?_))); (case aB => exact (ne_ HB.out)); (case aF => exact (fun _ _ => trivial)); (case aO => exact (nr_ HO946.out)); (case aS => exact (below_size (ne_ HB.out))); (case aL => have := LMc4.out; omega); intro v948 w33 ho hb hg hat; rw [← Ny947.out] at ho; have HO949 := Aside0.mk (ho); replace BK943 := Aside0.mk (blk_grown (g := gb943) (o := .cells #[.int .i64 a0_0, .slice A0_1 l0_1.length c0_1] 29 (0, 0)) (nb_ BK943.out) hg (Kd.R_ne HO946.out BK943.out (by decide))); replace HB := Aside0.mk (hb); clear HO946; clear ho hb hg hat) | ((with_reducible refine gate_builtin (b := .append) (xs := #[.tmp 11, .tmp 12]) rfl ?_); at_builtin; refine Kd.R_append_rows (Kd.int .i64) (w0 := w) w.heap.size rfl (.tmp 11) (.tmp 12) 41 3 (.int .i64 0) 8 rfl Try.underlying41 info3 rfl (by decide) (by omega) v948 y947 l2 _ _ _ (fun _ => True) (fun _ => False) rfl rfl ?aO ?aR (fun _ _ h => h) (fun _ h => h.elim) ?aF ?aB ?aS ?aL ?_; (case aR => repeat (first | exact (Kd.C_below HR2.out HB.out) | (with_reducible refine Kd.C_alloc ?_ _) | (with_reducible refine Kd.C_drewN ?_ _) | (with_reducible refine Kd.C_drew ?_))); (case aB => exact (ne_ HB.out)); (case aF => exact (fun _ _ => trivial)); (case aO => exact (nr_ HO949.out)); (case aS => exact (below_size (ne_ HB.out))); (case aL => have := LMc5.out; omega); intro v951 w34 ho hb hg hat; rw [← Ny950.out] at ho; have HO952 := Aside0.mk (ho); replace BK943 := Aside0.mk (blk_grown (g := gb943) (o := .cells #[.int .i64 a0_0, .slice A0_1 l0_1.length c0_1] 29 (0, 0)) (nb_ BK943.out) hg (Kd.R_ne HO949.out BK943.out (by decide))); replace HB := Aside0.mk (hb); clear HO949; clear ho hb hg hat; obtain ⟨hcz35_0, hcz35_1, hfz35_0, hfz35_1⟩ := cz2_ BK943.out) | ((with_reducible refine gate_callee (f := 60) rfl ?_); refine gl_ (some 15) Try.func60 #[.agg #[.int .i64 a0_0, .slice A0_1 l0_1.length c0_1]] ?_; (with_reducible refine (spec_l1Ok.calls k a0_0 _ _ l0_1 false _ ?side1 ?side2 A6.out).mono ?_); (case side1 => exact nc_ (Kd.C_below HR0_1.out HB.out)); (case side2 => exact HC0_1.out); rintro e w36 ⟨rfl, hb⟩; refine ⟨_, rfl, ?_⟩; replace HO952 := kR_ HO952 hb; replace BK943 := kb_ BK943 hb; replace HB := kB_ HB hb; (try clear hb); (try clear hb2); (try clear hk); (try clear hi)))
   go_ret2
   exact ⟨_, nw_, by first | exact Kd.R_nil _ _ _ _ _ | exact Kd.N_nil _ _ _ _ _ | exact Kd.V_nil _ _ _ _ _ | exact Kd.Q_nil _ _ _ _ _ | exact Kd.S_nil _ _ _ _ _, ne_ HB.out⟩
  subst c7
  rw [if_pos rfl] at H
  replace H := Option.bind_eq_some_iff.mp H
  obtain ⟨t954, A80, H⟩ := H
  replace H : (if t954 = true then (some (y950, true)) else (some (([] : List Int), false))) = some (r1, r2) := H
  have A8 := Aside0.mk A80
  clear A80
  by_cases c9 : t954 = true
  ·subst c9
   have H1 : (some (y950, true)) = some (r1, r2) := by rw [if_pos rfl] at H; exact H
   clear H
   have H := H1
   clear H1
   simp only [Option.some.injEq, Prod.mk.injEq] at H
   obtain ⟨rfl, rfl⟩ := H
   go_enter Try.func54, Try.ntmps54
   go_wp2_with (first | ((with_reducible refine gate_dst (N := 3) rfl ?_); refine bx_ 3 #[.int .i64 a0_0, .slice A0_1 l0_1.length c0_1] 29 ?_; intro gb943 hg w10 hbox hb; have BK943 := Aside0.mk (hbox); have GW943 := Aside0.mk (zs_ hg (ne_ HB.out)); have GE943 := Aside0.mk (zs_ hg (ne_ HB.out)); replace HB := kB_ HB hb; clear hb hbox hg) | ((with_reducible refine gate_dst (N := 9) rfl ?_); refine li_ 9 3 [] [] ?_; intro v945 w11 ho12 hb hg_ hnew_; clear hg_ hnew_; (first | rw [← Ny944.out] at ho12 | (simp only [Int.reduceToNat] at ho12; rw [← Ny944.out] at ho12)); have HO946 := Aside0.mk (Kd.R_lower ho12 (below_size (ne_ HB.out))); replace BK943 := kb_ BK943 hb; replace HB := kB_ HB hb; clear hb ho12) | ((with_reducible refine gate_builtin (b := .append) (xs := #[.tmp 9, .tmp 10]) rfl ?_); at_builtin; refine Kd.R_append_rows (Kd.int .i64) (w0 := w) w.heap.size rfl (.tmp 9) (.tmp 10) 41 3 (.int .i64 0) 8 rfl Try.underlying41 info3 rfl (by decide) (by omega) v945 y944 l1 _ _ _ (fun _ => True) (fun _ => False) rfl rfl ?aO ?aR (fun _ _ h => h) (fun _ h => h.elim) ?aF ?aB ?aS ?aL ?_; (case aR => repeat (first | exact (Kd.C_below HR1.out HB.out) | (with_reducible refine Kd.C_alloc ?_ _) | (with_reducible refine Kd.C_drewN ?_ _) | (with_reducible refine Kd.C_drew ?_))); (case aB => exact (ne_ HB.out)); (case aF => exact (fun _ _ => trivial)); (case aO => exact (nr_ HO946.out)); (case aS => exact (below_size (ne_ HB.out))); (case aL => have := LMc4.out; omega); intro v948 w13 ho hb hg hat; rw [← Ny947.out] at ho; have HO949 := Aside0.mk (ho); replace BK943 := Aside0.mk (blk_grown (g := gb943) (o := .cells #[.int .i64 a0_0, .slice A0_1 l0_1.length c0_1] 29 (0, 0)) (nb_ BK943.out) hg (Kd.R_ne HO946.out BK943.out (by decide))); replace HB := Aside0.mk (hb); clear HO946; clear ho hb hg hat) | ((with_reducible refine gate_builtin (b := .append) (xs := #[.tmp 11, .tmp 12]) rfl ?_); at_builtin; refine Kd.R_append_rows (Kd.int .i64) (w0 := w) w.heap.size rfl (.tmp 11) (.tmp 12) 41 3 (.int .i64 0) 8 rfl Try.underlying41 info3 rfl (by decide) (by omega) v948 y947 l2 _ _ _ (fun _ => True) (fun _ => False) rfl rfl ?aO ?aR (fun _ _ h => h) (fun _ h => h.elim) ?aF ?aB ?aS ?aL ?_; (case aR => repeat (first | exact (Kd.C_below HR2.out HB.out) | (with_reducible refine Kd.C_alloc ?_ _) | (with_reducible refine Kd.C_drewN ?_ _) | (with_reducible refine Kd.C_drew ?_))); (case aB => exact (ne_ HB.out)); (case aF => exact (fun _ _ => trivial)); (case aO => exact (nr_ HO949.out)); (case aS => exact (below_size (ne_ HB.out))); (case aL => have := LMc5.out; omega); intro v951 w14 ho hb hg hat; rw [← Ny950.out] at ho; have HO952 := Aside0.mk (ho); replace BK943 := Aside0.mk (blk_grown (g := gb943) (o := .cells #[.int .i64 a0_0, .slice A0_1 l0_1.length c0_1] 29 (0, 0)) (nb_ BK943.out) hg (Kd.R_ne HO949.out BK943.out (by decide))); replace HB := Aside0.mk (hb); clear HO949; clear ho hb hg hat; obtain ⟨hcz15_0, hcz15_1, hfz15_0, hfz15_1⟩ := cz2_ BK943.out) | ((with_reducible refine gate_callee (f := 60) rfl ?_); refine gl_ (some 15) Try.func60 #[.agg #[.int .i64 a0_0, .slice A0_1 l0_1.length c0_1]] ?_; (with_reducible refine (spec_l1Ok.calls k a0_0 _ _ l0_1 true _ ?side1 ?side2 A6.out).mono ?_); (case side1 => exact nc_ (Kd.C_below HR0_1.out HB.out)); (case side2 => exact HC0_1.out); rintro e w16 ⟨rfl, hb⟩; refine ⟨_, rfl, ?_⟩; replace HO952 := kR_ HO952 hb; replace BK943 := kb_ BK943 hb; replace HB := kB_ HB hb; (try clear hb); (try clear hb2); (try clear hk); (try clear hi); obtain ⟨hcz17_0, hcz17_1, hfz17_0, hfz17_1⟩ := cz2_ BK943.out; obtain ⟨Ao18, co18, eo18⟩ := Kd.R_slice HO952.out; subst eo18) | (go_at_call 83; (with_reducible refine (spec_l2Ok.calls k a0_0 _ _ l0_1 _ _ y950 true _ ?side1 ?side2 ?side3 ?side4 A8.out).mono ?_); (case side1 => exact nc_ (Kd.C_below HR0_1.out HB.out)); (case side2 => exact HC0_1.out); (case side3 => exact nc_ (Kd.R_reads' HO952.out).2.2); (case side4 => exact (Kd.R_reads' HO952.out).2.1); rintro e w19 ⟨rfl, hb⟩; replace HO952 := kR_ HO952 hb; replace BK943 := kb_ BK943 hb; replace HB := kB_ HB hb; (try clear hb); (try clear hb2); (try clear hk); (try clear hi)))
   go_ret2
   exact ⟨_, nw_, nr_ HO952.out, ne_ HB.out⟩
  replace c9 := Bool.eq_false_iff.mpr c9
  subst c9
  have H1 : (some (([] : List Int), false)) = some (r1, r2) := by rw [if_neg (show ¬ (false = true) by decide)] at H; exact H
  clear H
  have H := H1
  clear H1
  simp only [Option.some.injEq, Prod.mk.injEq] at H
  obtain ⟨rfl, rfl⟩ := H
  go_enter Try.func54, Try.ntmps54
  go_wp2_with (first | ((with_reducible refine gate_dst (N := 3) rfl ?_); refine bx_ 3 #[.int .i64 a0_0, .slice A0_1 l0_1.length c0_1] 29 ?_; intro gb943 hg w20 hbox hb; have BK943 := Aside0.mk (hbox); have GW943 := Aside0.mk (zs_ hg (ne_ HB.out)); have GE943 := Aside0.mk (zs_ hg (ne_ HB.out)); replace HB := kB_ HB hb; clear hb hbox hg) | ((with_reducible refine gate_dst (N := 9) rfl ?_); refine li_ 9 3 [] [] ?_; intro v945 w21 ho22 hb hg_ hnew_; clear hg_ hnew_; (first | rw [← Ny944.out] at ho22 | (simp only [Int.reduceToNat] at ho22; rw [← Ny944.out] at ho22)); have HO946 := Aside0.mk (Kd.R_lower ho22 (below_size (ne_ HB.out))); replace BK943 := kb_ BK943 hb; replace HB := kB_ HB hb; clear hb ho22) | ((with_reducible refine gate_builtin (b := .append) (xs := #[.tmp 9, .tmp 10]) rfl ?_); at_builtin; refine Kd.R_append_rows (Kd.int .i64) (w0 := w) w.heap.size rfl (.tmp 9) (.tmp 10) 41 3 (.int .i64 0) 8 rfl Try.underlying41 info3 rfl (by decide) (by omega) v945 y944 l1 _ _ _ (fun _ => True) (fun _ => False) rfl rfl ?aO ?aR (fun _ _ h => h) (fun _ h => h.elim) ?aF ?aB ?aS ?aL ?_; (case aR => repeat (first | exact (Kd.C_below HR1.out HB.out) | (with_reducible refine Kd.C_alloc ?_ _) | (with_reducible refine Kd.C_drewN ?_ _) | (with_reducible refine Kd.C_drew ?_))); (case aB => exact (ne_ HB.out)); (case aF => exact (fun _ _ => trivial)); (case aO => exact (nr_ HO946.out)); (case aS => exact (below_size (ne_ HB.out))); (case aL => have := LMc4.out; omega); intro v948 w23 ho hb hg hat; rw [← Ny947.out] at ho; have HO949 := Aside0.mk (ho); replace BK943 := Aside0.mk (blk_grown (g := gb943) (o := .cells #[.int .i64 a0_0, .slice A0_1 l0_1.length c0_1] 29 (0, 0)) (nb_ BK943.out) hg (Kd.R_ne HO946.out BK943.out (by decide))); replace HB := Aside0.mk (hb); clear HO946; clear ho hb hg hat) | ((with_reducible refine gate_builtin (b := .append) (xs := #[.tmp 11, .tmp 12]) rfl ?_); at_builtin; refine Kd.R_append_rows (Kd.int .i64) (w0 := w) w.heap.size rfl (.tmp 11) (.tmp 12) 41 3 (.int .i64 0) 8 rfl Try.underlying41 info3 rfl (by decide) (by omega) v948 y947 l2 _ _ _ (fun _ => True) (fun _ => False) rfl rfl ?aO ?aR (fun _ _ h => h) (fun _ h => h.elim) ?aF ?aB ?aS ?aL ?_; (case aR => repeat (first | exact (Kd.C_below HR2.out HB.out) | (with_reducible refine Kd.C_alloc ?_ _) | (with_reducible refine Kd.C_drewN ?_ _) | (with_reducible refine Kd.C_drew ?_))); (case aB => exact (ne_ HB.out)); (case aF => exact (fun _ _ => trivial)); (case aO => exact (nr_ HO949.out)); (case aS => exact (below_size (ne_ HB.out))); (case aL => have := LMc5.out; omega); intro v951 w24 ho hb hg hat; rw [← Ny950.out] at ho; have HO952 := Aside0.mk (ho); replace BK943 := Aside0.mk (blk_grown (g := gb943) (o := .cells #[.int .i64 a0_0, .slice A0_1 l0_1.length c0_1] 29 (0, 0)) (nb_ BK943.out) hg (Kd.R_ne HO949.out BK943.out (by decide))); replace HB := Aside0.mk (hb); clear HO949; clear ho hb hg hat; obtain ⟨hcz25_0, hcz25_1, hfz25_0, hfz25_1⟩ := cz2_ BK943.out) | ((with_reducible refine gate_callee (f := 60) rfl ?_); refine gl_ (some 15) Try.func60 #[.agg #[.int .i64 a0_0, .slice A0_1 l0_1.length c0_1]] ?_; (with_reducible refine (spec_l1Ok.calls k a0_0 _ _ l0_1 true _ ?side1 ?side2 A6.out).mono ?_); (case side1 => exact nc_ (Kd.C_below HR0_1.out HB.out)); (case side2 => exact HC0_1.out); rintro e w26 ⟨rfl, hb⟩; refine ⟨_, rfl, ?_⟩; replace HO952 := kR_ HO952 hb; replace BK943 := kb_ BK943 hb; replace HB := kB_ HB hb; (try clear hb); (try clear hb2); (try clear hk); (try clear hi); obtain ⟨hcz27_0, hcz27_1, hfz27_0, hfz27_1⟩ := cz2_ BK943.out; obtain ⟨Ao28, co28, eo28⟩ := Kd.R_slice HO952.out; subst eo28) | (go_at_call 83; (with_reducible refine (spec_l2Ok.calls k a0_0 _ _ l0_1 _ _ y950 false _ ?side1 ?side2 ?side3 ?side4 A8.out).mono ?_); (case side1 => exact nc_ (Kd.C_below HR0_1.out HB.out)); (case side2 => exact HC0_1.out); (case side3 => exact nc_ (Kd.R_reads' HO952.out).2.2); (case side4 => exact (Kd.R_reads' HO952.out).2.1); rintro e w29 ⟨rfl, hb⟩; replace HO952 := kR_ HO952 hb; replace BK943 := kb_ BK943 hb; replace HB := kB_ HB hb; (try clear hb); (try clear hb2); (try clear hk); (try clear hi)))
  go_ret2
  exact ⟨_, nw_, by first | exact Kd.R_nil _ _ _ _ _ | exact Kd.N_nil _ _ _ _ _ | exact Kd.V_nil _ _ _ _ _ | exact Kd.Q_nil _ _ _ _ _ | exact Kd.S_nil _ _ _ _ _, ne_ HB.out⟩
end Go.Proofs.Ytpjmkghmjpbldaa.Print
