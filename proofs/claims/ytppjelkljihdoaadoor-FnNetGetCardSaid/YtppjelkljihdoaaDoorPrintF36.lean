-- Made by this session's own program (wip/patch_print.py, over the kit's print). Lean checks it.
import Derived.Test.YtppjelkljihdoaaDoorPrint0
import Derived.Test.YtppjelkljihdoaaDoorPrintF34
import Derived.Test.YtppjelkljihdoaaDoorV
import Derived.Test.YtppjelkljihdoaaDoorSh
import Derived.Lib.AtoiAllMem
namespace Go.Proofs.YtppjelkljihdoaaDoor.Print
open Go.RowKit Go.Proofs.YtppjelkljihdoaaDoorW.PrintWords Go.Proofs.YtppjelkljihdoaaDoorW.PrintLast Go.Proofs.YtppjelkljihdoaaDoorW.PrintMore Go.Proofs.YtppjelkljihdoaaDoorX
attribute [local go_sem] max2_int min2_int max_two min_two max_three min_three max_four min_four   -- for this text's walks alone
set_option linter.unusedVariables false
set_option linter.unusedSimpArgs false

/-! ### impl_readNumbers: function 36 -/
/-- strconv.Atoi: the number, and whether an error stands beside it. -/
def strconv_Atoi_59.f (a0 : ByteArray) : Option (Int × Option Int) := if a0.size ≤ 281474976710656 then (match Lib.atoiAll a0.data.toList with | .ok v => some (v, none) | .range => some (Lib.atoiSat a0.data.toList, some 0) | _ => some (0, some 0)) else none
theorem strconv_Atoi_59.calls (a0 : ByteArray) (r1 : Int) (w : World) (h : strconv_Atoi_59.f a0 = some (r1, none)) :
    Calls Tryd.prog 59 #[.string a0] w fun e w' => e = .returned (.tuple #[.int .i64 r1, .nilIface]) ∧ Below w.heap.size w w' := by
  unfold strconv_Atoi_59.f at h
  split at h
  · rename_i hs
    cases hA : Lib.atoiAll a0.data.toList with
    | ok v =>
      rw [hA] at h
      obtain rfl : v = r1 := by simpa using h
      refine (Tryd.strconv_Atoi_ok a0 (by omega) v hA w).mono ?_
      rintro e w' ⟨rfl, hw⟩
      refine ⟨rfl, ?_⟩
      rcases hw with rfl | ⟨t, rfl⟩
      · exact Below.refl _ _
      · exact Lib.bytesWorld_below _ _ _
    | _ => rw [hA] at h; simp at h
  · cases h
theorem strconv_Atoi_59.bad (a0 : ByteArray) (r1 q : Int) (w : World) (h : strconv_Atoi_59.f a0 = some (r1, some q)) (hV : Aside0 (VarsOk w) := by first | with_reducible assumption | exact vof_ (by assumption) (ne_ (Aside0.out (by assumption)))) :
    Calls Tryd.prog 59 #[.string a0] w fun e w' => ∃ N, e = .returned (.tuple #[.int .i64 r1, .iface 110 (.pointer (some ⟨N, 0, none⟩))]) ∧ Below w.heap.size w w' := by
  obtain ⟨_, ⟨es, h2, h3⟩, ⟨er, h4, h5⟩⟩ := hV.out
  unfold strconv_Atoi_59.f at h
  split at h
  · rename_i hs
    have key : (Lib.atoiAll a0.data.toList = .range ∧ Lib.atoiSat a0.data.toList = r1) ∨ ((∀ v, Lib.atoiAll a0.data.toList ≠ .ok v) ∧ Lib.atoiAll a0.data.toList ≠ .range ∧ 0 = r1) := by
      cases hA : Lib.atoiAll a0.data.toList <;> rw [hA] at h <;> simp at h <;> simp [h]
    rcases key with ⟨hA, rfl⟩ | ⟨hA, hB, rfl⟩
    · refine (Any.strconv_Atoi_range Tryd.laysC172 a0 hs hA er w h4 h5).mono ?_
      rintro e w' ⟨N, rfl, _, _, hb⟩
      exact ⟨N, rfl, hb⟩
    · refine (Any.strconv_Atoi_syntax Tryd.laysC172 a0 hs ?_ es w h2 h3).mono ?_
      · cases hC : Lib.atoiAll a0.data.toList with
        | ok v => exact absurd hC (hA v)
        | range => exact absurd hC hB
        | _ => rfl
      · rintro e w' ⟨N, rfl, _, _, hb⟩
        exact ⟨N, rfl, hb⟩
  · cases h
def impl_readNumbers.l0 : Nat → List Int → List ByteArray → Int → Int → Option (List Int × Bool)
  | 0, _, _, _, _ => none
  | k + 1, x7, x20, x21, x22 => if x22 < x21 then (if 0 ≤ x22 then (if x22 < (x20.length : Int) then ((strconv_Atoi_59.f (rdOf ByteArray.empty x20 x22)).bind fun bt155 => (if bt155.2.isNone = true then (if x7.length < 17592186044416 then (impl_readNumbers.l0 k (x7 ++ [bt155.1]) x20 x21 (wrap64 (x22 + 1))) else (none)) else (some (([] : List Int), false)))) else (none)) else (none)) else (some (x7, true))
def impl_readNumbers.f (k : Nat) (a0 : ByteArray) (a1 : Int) : Option (List Int × Bool) := (strings_Split.f a0 (⟨#[32]⟩ : ByteArray)).bind fun t148 => (if (t148.length : Int) = a1 then (if 0 ≤ a1 then (if (a1 : Int).toNat ≤ 35184372088832 then (impl_readNumbers.l0 k (([] : List Int)) t148 (t148.length : Int) 0) else (none)) else (none)) else (some (([] : List Int), false)))
theorem impl_readNumbers.mono_l : ∀ k, (∀ y0 y1 y2 y3, LeO (impl_readNumbers.l0 k y0 y1 y2 y3) (impl_readNumbers.l0 (k + 1) y0 y1 y2 y3))
  | 0 => fun _ _ _ _ r h => by simp [impl_readNumbers.l0] at h
  | k + 1 => by
    have ih0 := impl_readNumbers.mono_l k
    · intro y0 y1 y2 y3
      unfold impl_readNumbers.l0
      repeat' first | (with_reducible first | exact ih0 _ _ _ _ | exact LeO.refl _ | exact LeO.none _ | refine LeO.ite ?_ ?_ | refine LeO.bind ?_ (fun _ => ?_)) | exact ih0 _ _ _ _ | exact LeO.none _ | refine LeO.ite ?_ ?_ | refine LeO.bind ?_ (fun _ => ?_)
theorem impl_readNumbers.mono : ∀ a0 a1 k, LeO (impl_readNumbers.f k a0 a1) (impl_readNumbers.f (k + 1) a0 a1) := by
  intro a0 a1 k
  have ih0 := impl_readNumbers.mono_l k
  unfold impl_readNumbers.f
  repeat' first | (with_reducible first | exact ih0 _ _ _ _ | exact LeO.refl _ | exact LeO.none _ | refine LeO.ite ?_ ?_ | refine LeO.bind ?_ (fun _ => ?_)) | exact ih0 _ _ _ _ | exact LeO.none _ | refine LeO.ite ?_ ?_ | refine LeO.bind ?_ (fun _ => ?_)
set_option maxHeartbeats 200000000 in
set_option maxRecDepth 100000 in
theorem impl_readNumbers.calls (k : Nat) (a0 : ByteArray) (a1 : Int) (r1 : List Int) (r2 : Bool) (w : World) (h : impl_readNumbers.f k a0 a1 = some (r1, r2)) (hV : Aside0 (VarsOk w) := by first | with_reducible assumption | exact vof_ (by assumption) (ne_ (Aside0.out (by assumption)))) :
    Calls Tryd.prog 36 #[.string a0, .int .i64 a1] w fun e w' => ∃ v0_ : Value, e = .returned (.tuple #[v0_, .bool r2]) ∧ Kd.R (Kd.int .i64) 3 w' w.heap.size (fun _ => True) v0_ r1 ∧ Below w.heap.size w w' := by
  have hu49 := Tryd.underlying49
  have hu107 := Tryd.underlying107
  have HB := Aside0.mk (Below.refl w.heap.size w)
  have H : ((strings_Split.f a0 (⟨#[32]⟩ : ByteArray)).bind fun t148 => (if (t148.length : Int) = a1 then (if 0 ≤ a1 then (if (a1 : Int).toNat ≤ 35184372088832 then (impl_readNumbers.l0 k (([] : List Int)) t148 (t148.length : Int) 0) else (none)) else (none)) else (some (([] : List Int), false)))) = some (r1, r2) := h
  clear h
  replace H := Option.bind_eq_some_iff.mp H
  obtain ⟨t148, A30, H⟩ := H
  try dsimp only at H
  have A3 := Aside0.mk A30
  clear A30
  by_cases c4 : (t148.length : Int) = a1
  rotate_left
  ·rw [if_neg c4] at H
   have c4b0 : ((t148.length : Int) == a1) = false := beq_eq_false_iff_ne.mpr c4
   have c4b1 : ((t148.length : Int) != a1) = true := bne_iff_ne.mpr c4
   simp only [Option.some.injEq, Prod.mk.injEq] at H
   obtain ⟨rfl, rfl⟩ := H
   go_enter Tryd.func36, Tryd.ntmps36
   go_wp2_with (first | ((with_reducible refine gate_callee (f := 34) rfl ?_); refine gl_ (some 13) Tryd.func34 #[.string a0, .string (⟨#[32]⟩ : ByteArray)] ?_; (with_reducible refine (strings_Split.calls a0 (⟨#[32]⟩ : ByteArray) t148 _ A3.out).mono ?_); rintro e w19 ⟨v149, rfl, ho0, hb⟩; refine ⟨_, rfl, ?_⟩; have HO150 := Aside0.mk (Kd.R_lower ho0 (below_size (ne_ HB.out))); replace HB := kB_ HB hb; (try clear hb); (try clear hb2); (try clear hk); (try clear hi); (try clear ho0); obtain ⟨Ao20, co20, eo20⟩ := Kd.R_slice HO150.out; subst eo20))
   go_ret2
   exact ⟨_, nw_, by first | exact Kd.R_nil _ _ _ _ _ | exact Kd.N_nil _ _ _ _ _ | exact Kd.V_nil _ _ _ _ _ | exact Kd.Q_nil _ _ _ _ _ | exact Kd.S_nil _ _ _ _ _, ne_ HB.out⟩

  rw [if_pos c4] at H
  have c4b0 : ((t148.length : Int) == a1) = true := beq_iff_eq.mpr c4
  have c4b1 : ((t148.length : Int) != a1) = false := bne_eq_false_iff_eq.mpr c4
  clear c4
  by_cases c5 : 0 ≤ a1
  rotate_left
  ·rw [if_neg c5] at H
   exact absurd H (by simp)
  rw [if_pos c5] at H
  have c5b0 := eq_true c5
  have c5b1 : decide (0 ≤ a1) = true := decide_eq_true c5
  clear c5
  by_cases c6 : (a1 : Int).toNat ≤ 35184372088832
  rotate_left
  ·rw [if_neg c6] at H
   exact absurd H (by simp)
  rw [if_pos c6] at H
  have c6b0 := eq_true c6
  have c6b1 : decide ((a1 : Int).toNat ≤ 35184372088832) = true := decide_eq_true c6
  clear c6
  obtain ⟨y151, hy151⟩ : ∃ y_ : List Int, y_ = (([] : List Int)) := ⟨_, rfl⟩
  replace H : (impl_readNumbers.l0 k y151 t148 (t148.length : Int) 0) = some (r1, r2) := by first | (rw [hy151]; with_reducible exact H) | (have H2_ := (Option.bind_some _ _).symm.trans H; rw [hy151]; with_reducible exact H2_) | (have H2_ := (Option.bind_some _ _).symm.trans H; with_reducible exact H2_) | with_reducible exact H | (rw [hy151]; exact H) | exact H
  have Ny151 := Aside0.mk hy151
  clear hy151
  have H' := Aside0.mk H
  clear H
  go_enter Tryd.func36, Tryd.ntmps36
  go_wp2_with (first | ((with_reducible refine gate_callee (f := 34) rfl ?_); refine gl_ (some 13) Tryd.func34 #[.string a0, .string (⟨#[32]⟩ : ByteArray)] ?_; (with_reducible refine (strings_Split.calls a0 (⟨#[32]⟩ : ByteArray) t148 _ A3.out).mono ?_); rintro e w7 ⟨v149, rfl, ho0, hb⟩; refine ⟨_, rfl, ?_⟩; have HO150 := Aside0.mk (Kd.R_lower ho0 (below_size (ne_ HB.out))); replace HB := kB_ HB hb; (try clear hb); (try clear hb2); (try clear hk); (try clear hi); (try clear ho0); obtain ⟨Ao8, co8, eo8⟩ := Kd.R_slice HO150.out; subst eo8) | ((with_reducible refine gate_dst (N := 19) rfl ?_); refine Go.Proofs.YtppjelkljihdoaaDoorX.Kd.R_make0 (Kd.int .i64) _ 3 rfl (N := 19) rfl 65 _ _ rfl a1 rfl rfl Tryd.underlying65 (.int .i64 0) 8 info3 (by omega) (ok := fun _ => True) trivial (of_decide_eq_true nx_) (Nat.le_trans (Nat.mul_le_mul_right _ (of_decide_eq_true nx_ : (a1 : Int).toNat ≤ 35184372088832)) (by omega)) (Below.refl _ _) (Nat.le_refl _) ?_; intro v152 w9 ho10 hb hg_ hnew_; clear hg_ hnew_; (first | rw [← Ny151.out] at ho10 | (simp only [Int.reduceToNat] at ho10; rw [← Ny151.out] at ho10)); have HO153 := Aside0.mk (Kd.R_lower ho10 (below_size (ne_ HB.out))); replace HO150 := kR_ HO150 hb; replace HB := kB_ HB hb; clear hb ho10))
  go_loopg [7, 22] k (fun kq v7 v22 w' => ∃ (x7_1 : List Int) (x22_1 : Int), v22 = .int .i64 x22_1 ∧ Aside0 (impl_readNumbers.l0 kq x7_1 t148 (t148.length : Int) x22_1 = some (r1, r2)) ∧ Aside0 (kq ≤ k) ∧ Aside0 (Kd.R (Kd.int .i64) 3 w' w.heap.size (fun _ => True) v7 x7_1) ∧ Aside0 (Kd.R Kd.string 9 w' w.heap.size (fun _ => True) (.slice Ao8 t148.length co8) t148) ∧ Aside0 (Below w.heap.size w w'))
  case atStart => exact ⟨(y151), (0), ns_, H', ⟨Nat.le_refl _⟩, ⟨nr_ HO153.out⟩, ⟨nr_ HO150.out⟩, ⟨ne_ HB.out⟩⟩
  case round =>
   clear H'
   try clear c4
   try clear c4b0
   try clear c4b1
   try clear c5
   try clear c5b0
   try clear c5b1
   try clear c6
   try clear c6b0
   try clear c6b1
   obtain ⟨x7_1, x22_1, rfl, HA, HK1, HO_7, HO_20, HB⟩ := hrel
   cases gk with
   | zero => exact absurd HA.out (by simp [impl_readNumbers.l0])
   | succ k1 =>
    have H := HA.out
    clear HA
    simp only [impl_readNumbers.l0] at H
    by_cases c11 : x22_1 < (t148.length : Int)
    rotate_left
    ·rw [if_neg c11] at H
     have c11b0 : decide (x22_1 < (t148.length : Int)) = false := decide_eq_false c11
     clear c11
     simp only [Option.some.injEq, Prod.mk.injEq] at H
     obtain ⟨rfl, rfl⟩ := H
     go_wp2
     go_ret2
     exact ⟨_, nw_, nr_ HO_7.out, ne_ HB.out⟩
    rw [if_pos c11] at H
    have c11b0 : decide (x22_1 < (t148.length : Int)) = true := decide_eq_true c11
    clear c11
    by_cases c12 : 0 ≤ x22_1
    rotate_left
    ·rw [if_neg c12] at H
     exact absurd H (by simp)
    rw [if_pos c12] at H
    have c12b0 : decide (0 ≤ x22_1) = true := decide_eq_true c12
    clear c12
    by_cases c13 : x22_1 < (t148.length : Int)
    rotate_left
    ·rw [if_neg c13] at H
     exact absurd H (by simp)
    rw [if_pos c13] at H
    have c13b0 : decide (x22_1 < (t148.length : Int)) = true := decide_eq_true c13
    clear c13
    replace H := Option.bind_eq_some_iff.mp H
    obtain ⟨⟨t155, t156⟩, A140, H⟩ := H
    try dsimp only at H
    have A14 := Aside0.mk A140
    clear A140
    rcases t156 with _ | q157
    ·have H1 : (if x7_1.length < 17592186044416 then (impl_readNumbers.l0 k1 (x7_1 ++ [t155]) t148 (t148.length : Int) (wrap64 (x22_1 + 1))) else (none)) = some (r1, r2) := by rw [if_pos (show (none : Option Int).isNone = true by rfl)] at H; exact H
     clear H
     have H := H1
     clear H1
     try simp only [errW_none, errW_some]
     by_cases c15 : x7_1.length < 17592186044416
     rotate_left
     ·rw [if_neg c15] at H
      exact absurd H (by simp)
     rw [if_pos c15] at H
     have LMc15 := Aside0.mk c15
     clear c15
     obtain ⟨y158, hy158⟩ : ∃ y_ : List Int, y_ = (x7_1 ++ [t155]) := ⟨_, rfl⟩
     replace H : (impl_readNumbers.l0 k1 y158 t148 (t148.length : Int) (wrap64 (x22_1 + 1))) = some (r1, r2) := by first | (rw [hy158]; with_reducible exact H) | (have H2_ := (Option.bind_some _ _).symm.trans H; rw [hy158]; with_reducible exact H2_) | (have H2_ := (Option.bind_some _ _).symm.trans H; with_reducible exact H2_) | with_reducible exact H | (rw [hy158]; exact H) | exact H
     have Ny158 := Aside0.mk hy158
     clear hy158
     have H' := Aside0.mk H
     clear H
     have p154 : 0 ≤ (x22_1 : Int) := of_decide_eq_true nx_
     have q154 : x22_1 < (t148.length : Int) := of_decide_eq_true nx_
     obtain ⟨ad154, e154, hx154_0⟩ := Kd.at_string (Kd.R_reads' HO_20.out).2.2 x22_1 p154 q154
     cases e154
     replace p154 := eq_true p154
     replace q154 := eq_true q154
     go_wp2_with (first | ((with_reducible refine gate_callee (f := 59) rfl ?_); refine gl_ (some 28) Tryd.func59 #[.string (rdOf ByteArray.empty t148 x22_1)] ?_; (with_reducible refine (strconv_Atoi_59.calls (rdOf ByteArray.empty t148 x22_1) t155 _ A14.out).mono ?_); rintro e w16 ⟨rfl, hb⟩; refine ⟨_, rfl, ?_⟩; replace HO_7 := kR_ HO_7 hb; replace HO_20 := kR_ HO_20 hb; replace HB := kB_ HB hb; (try clear hb); (try clear hb2); (try clear hk); (try clear hi); (try simp only [errW_none, errW_some])) | ((with_reducible refine gate_builtin (b := .append) (xs := #[.tmp 33, .tmp 35]) rfl ?_); at_builtin; refine Kd.R_append (Kd.int .i64) (w0 := w) w.heap.size rfl (.tmp 33) (.tmp 35) 65 3 (.int .i64 0) 8 rfl Tryd.underlying65 info3 rfl (by decide) (by omega) u7 x7_1 t155 [.int .i64 t155] (fun _ => True) (fun _ => False) rfl rfl ?aP (fun _ hk => hk.elim) ?aF ?aO ?aB ?aS ?aL ?_; (case aP => exact rfl); (case aB => exact (ne_ HB.out)); (case aF => exact (fun _ _ => trivial)); (case aO => exact (nr_ HO_7.out)); (case aS => exact (below_size (ne_ HB.out))); (case aL => have := LMc15.out; omega); intro v159 w17 ho hb hg hat; rw [← Ny158.out] at ho; have HO160 := Aside0.mk (ho); replace HO_20 := Aside0.mk (Kd.R_over' (nr_ HO_20.out) (Kd.R_typed (nr_ HO_7.out)) (by decide) hg); replace HB := Aside0.mk (hb); clear HO_7; clear ho hb hg hat))
     go_roundg k1
     case measure => have := HK1.out; omega
     case rel => exact ⟨(y158), (wrap64 (x22_1 + 1)), ns_, H', ⟨by have := HK1.out; omega⟩, ⟨nr_ HO160.out⟩, ⟨nr_ HO_20.out⟩, ⟨ne_ HB.out⟩⟩
    ·have H1 : (some (([] : List Int), false)) = some (r1, r2) := by rw [if_neg (show ¬ (some q157).isNone = true by simp)] at H; exact H
     clear H
     have H := H1
     clear H1
     try simp only [errW_none, errW_some]
     simp only [Option.some.injEq, Prod.mk.injEq] at H
     obtain ⟨rfl, rfl⟩ := H
     have p154 : 0 ≤ (x22_1 : Int) := of_decide_eq_true nx_
     have q154 : x22_1 < (t148.length : Int) := of_decide_eq_true nx_
     obtain ⟨ad154, e154, hx154_0⟩ := Kd.at_string (Kd.R_reads' HO_20.out).2.2 x22_1 p154 q154
     cases e154
     replace p154 := eq_true p154
     replace q154 := eq_true q154
     go_wp2_with (first | ((with_reducible refine gate_callee (f := 59) rfl ?_); refine gl_ (some 28) Tryd.func59 #[.string (rdOf ByteArray.empty t148 x22_1)] ?_; (with_reducible refine (strconv_Atoi_59.bad (rdOf ByteArray.empty t148 x22_1) t155 q157 _ A14.out).mono ?_); rintro e w18 ⟨N18, rfl, hb⟩; refine ⟨_, rfl, ?_⟩; replace HO_7 := kR_ HO_7 hb; replace HO_20 := kR_ HO_20 hb; replace HB := kB_ HB hb; (try clear hb); (try clear hb2); (try clear hk); (try clear hi); (try simp only [errW_none, errW_some])))
     go_ret2
     exact ⟨_, nw_, by first | exact Kd.R_nil _ _ _ _ _ | exact Kd.N_nil _ _ _ _ _ | exact Kd.V_nil _ _ _ _ _ | exact Kd.Q_nil _ _ _ _ _ | exact Kd.S_nil _ _ _ _ _, ne_ HB.out⟩

end Go.Proofs.YtppjelkljihdoaaDoor.Print
