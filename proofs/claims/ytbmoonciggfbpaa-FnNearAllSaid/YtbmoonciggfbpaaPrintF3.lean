-- Made by this session's own program (wip/patch_print.py, over the kit's print). Lean checks it.
import Derived.Test.YtbmoonciggfbpaaPrint0
import Derived.Test.YtbmoonciggfbpaaPrintB
import Derived.Test.YtbmoonciggfbpaaPrintF13
import Derived.Test.YtbmoonciggfbpaaPrintF14
import Derived.Test.YtbmoonciggfbpaaPrintF16
namespace Go.Proofs.Ytbmoonciggfbpaa.Print
open Go.RowKit Go.Proofs.YtbmoonciggfbpaaW.PrintWords Go.Proofs.YtbmoonciggfbpaaW.PrintLast Go.Proofs.YtbmoonciggfbpaaW.PrintMore Go.Proofs.YtbmoonciggfbpaaX
attribute [local go_sem] max2_int min2_int max_two min_two max_three min_three max_four min_four   -- for this text's walks alone
set_option linter.unusedVariables false
set_option linter.unusedSimpArgs false

abbrev z3_0 : Array Bool := #[false, false, false, false, false, false, false, false, false, false, false, false, false, false, false, false, false, false, false, false, false, false]
abbrev z3_1 : Array Bool := #[true, false, false, false, false, false, false, false, false, false, false, false, false, false, false, false, false, false, false, false, false, false]
abbrev z3_2 : Array Bool := #[true, true, false, false, false, false, false, false, false, false, false, false, false, false, false, false, false, false, false, false, false, false]
abbrev z3_3 : Array Bool := #[true, true, true, false, false, false, false, false, false, false, false, false, false, false, false, false, false, false, false, false, false, false]
abbrev z3_4 : Array Bool := #[true, true, true, true, false, false, false, false, false, false, false, false, false, false, false, false, false, false, false, false, false, false]
abbrev z3_5 : Array Bool := #[true, true, true, true, true, false, false, false, false, false, false, false, false, false, false, false, false, false, false, false, false, false]
abbrev z3_6 : Array Bool := #[true, true, true, true, true, true, false, false, false, false, false, false, false, false, false, false, false, false, false, false, false, false]
abbrev z3_7 : Array Bool := #[true, true, true, true, true, true, true, false, false, false, false, false, false, false, false, false, false, false, false, false, false, false]
abbrev z3_8 : Array Bool := #[true, true, true, true, true, true, true, true, false, false, false, false, false, false, false, false, false, false, false, false, false, false]
abbrev z3_9 : Array Bool := #[true, true, true, true, true, true, true, true, true, false, false, false, false, false, false, false, false, false, false, false, false, false]
abbrev z3_10 : Array Bool := #[true, true, true, true, true, true, true, true, true, false, false, false, true, false, false, false, false, false, false, false, false, false]
abbrev z3_11 : Array Bool := #[true, true, true, true, true, true, true, true, true, false, false, false, true, true, false, false, false, false, false, false, false, false]
abbrev z3_12 : Array Bool := #[true, true, true, true, true, true, true, true, true, false, false, false, true, true, false, false, false, true, false, false, false, false]
abbrev z3_13 : Array Bool := #[true, true, true, true, true, true, true, true, true, true, false, false, true, true, false, false, false, true, false, false, false, false]
abbrev z3_14 : Array Bool := #[true, true, true, true, true, true, true, true, true, true, true, false, true, true, false, false, false, true, false, false, false, false]
abbrev z3_15 : Array Bool := #[true, true, true, true, true, true, true, true, true, true, true, true, true, true, false, false, false, true, false, false, false, false]
abbrev z3_16 : Array Bool := #[true, true, true, true, true, true, true, true, true, true, true, true, true, true, true, false, false, true, false, false, false, false]
abbrev z3_17 : Array Bool := #[true, true, true, true, true, true, true, true, true, true, true, true, true, true, true, true, false, true, false, false, false, false]
abbrev z3_18 : Array Bool := #[true, true, true, true, true, true, true, true, true, true, true, true, true, true, true, true, true, true, false, false, false, false]
abbrev z3_19 : Array Bool := #[true, true, true, true, true, true, true, true, true, true, true, true, true, true, true, true, true, true, true, false, false, false]
abbrev z3_20 : Array Bool := #[true, true, true, true, true, true, true, true, true, true, true, true, true, true, true, true, true, true, true, true, false, false]
abbrev z3_21 : Array Bool := #[true, true, true, true, true, true, true, true, true, true, true, true, true, true, true, true, true, true, true, true, true, false]
abbrev z3_22 : Array Bool := #[true, true, true, true, true, true, true, true, true, true, true, true, true, true, true, true, true, true, true, true, true, true]
abbrev z3_23 : Array Bool := #[false, false, false, false, false, false, false, false, false, false, false, false, false, false, false, false, false, false, false, false, false, false, false, false, false, false, false, false, false, false, false, false, false, false]
abbrev z3_24 : Array Bool := #[true, false, false, false, false, false, false, false, false, false, false, false, false, false, false, false, false, false, false, false, false, false, false, false, false, false, false, false, false, false, false, false, false, false]
abbrev z3_25 : Array Bool := #[true, true, false, false, false, false, false, false, false, false, false, false, false, false, false, false, false, false, false, false, false, false, false, false, false, false, false, false, false, false, false, false, false, false]
abbrev z3_26 : Array Bool := #[true, true, false, true, false, false, false, false, false, false, false, false, false, false, false, false, false, false, false, false, false, false, false, false, false, false, false, false, false, false, false, false, false, false]
abbrev z3_27 : Array Bool := #[true, true, false, true, true, false, false, false, false, false, false, false, false, false, false, false, false, false, false, false, false, false, false, false, false, false, false, false, false, false, false, false, false, false]
abbrev z3_28 : Array Bool := #[true, true, true, true, true, false, false, false, false, false, false, false, false, false, false, false, false, false, false, false, false, false, false, false, false, false, false, false, false, false, false, false, false, false]
abbrev z3_29 : Array Bool := #[true, true, true, true, true, true, false, false, false, false, false, false, false, false, false, false, false, false, false, false, false, false, false, false, false, false, false, false, false, false, false, false, false, false]
abbrev z3_30 : Array Bool := #[true, true, true, true, true, true, true, false, false, false, false, false, false, false, false, false, false, false, false, false, false, false, false, false, false, false, false, false, false, false, false, false, false, false]
abbrev z3_31 : Array Bool := #[true, true, true, true, true, true, true, true, false, false, false, false, false, false, false, false, false, false, false, false, false, false, false, false, false, false, false, false, false, false, false, false, false, false]
abbrev z3_32 : Array Bool := #[true, true, true, true, true, true, true, true, true, false, false, false, false, false, false, false, false, false, false, false, false, false, false, false, false, false, false, false, false, false, false, false, false, false]
abbrev z3_33 : Array Bool := #[true, true, true, true, true, true, true, true, true, true, false, false, false, false, false, false, false, false, false, false, false, false, false, false, false, false, false, false, false, false, false, false, false, false]
abbrev z3_34 : Array Bool := #[true, true, true, true, true, true, true, true, true, true, true, false, false, false, false, false, false, false, false, false, false, false, false, false, false, false, false, false, false, false, false, false, false, false]
abbrev z3_35 : Array Bool := #[true, true, true, true, true, true, true, true, true, true, true, true, false, false, false, false, false, false, false, false, false, false, false, false, false, false, false, false, false, false, false, false, false, false]
abbrev z3_36 : Array Bool := #[true, true, true, true, true, true, true, true, true, true, true, true, true, false, false, false, false, false, false, false, false, false, false, false, false, false, false, false, false, false, false, false, false, false]
abbrev z3_37 : Array Bool := #[true, true, true, true, true, true, true, true, true, true, true, true, true, true, false, false, false, false, false, false, false, false, false, false, false, false, false, false, false, false, false, false, false, false]
abbrev z3_38 : Array Bool := #[true, true, true, true, true, true, true, true, true, true, true, true, true, true, true, false, false, false, false, false, false, false, false, false, false, false, false, false, false, false, false, false, false, false]
abbrev z3_39 : Array Bool := #[true, true, true, true, true, true, true, true, true, true, true, true, true, true, true, true, false, false, false, false, false, false, false, false, false, false, false, false, false, false, false, false, false, false]
abbrev z3_40 : Array Bool := #[true, true, true, true, true, true, true, true, true, true, true, true, true, true, true, true, true, false, false, false, false, false, false, false, false, false, false, false, false, false, false, false, false, false]
abbrev z3_41 : Array Bool := #[true, true, true, true, true, true, true, true, true, true, true, true, true, true, true, true, true, true, false, false, false, false, false, false, false, false, false, false, false, false, false, false, false, false]
abbrev z3_42 : Array Bool := #[true, true, true, true, true, true, true, true, true, true, true, true, true, true, true, true, true, true, true, false, false, false, false, false, false, false, false, false, false, false, false, false, false, false]
abbrev z3_43 : Array Bool := #[true, true, true, true, true, true, true, true, true, true, true, true, true, true, true, true, true, true, true, true, false, false, false, false, false, false, false, false, false, false, false, false, false, false]
abbrev z3_44 : Array Bool := #[true, true, true, true, true, true, true, true, true, true, true, true, true, true, true, true, true, true, true, true, true, false, false, false, false, false, false, false, false, false, false, false, false, false]
abbrev z3_45 : Array Bool := #[true, true, true, true, true, true, true, true, true, true, true, true, true, true, true, true, true, true, true, true, true, true, false, false, false, false, false, false, false, false, false, false, false, false]
abbrev z3_46 : Array Bool := #[true, true, true, true, true, true, true, true, true, true, true, true, true, true, true, true, true, true, true, true, true, true, true, false, false, false, false, false, false, false, false, false, false, false]
abbrev z3_47 : Array Bool := #[true, true, true, true, true, true, true, true, true, true, true, true, true, true, true, true, true, true, true, true, true, true, true, true, false, false, false, false, false, false, false, false, false, false]
abbrev z3_48 : Array Bool := #[true, true, true, true, true, true, true, true, true, true, true, true, true, true, true, true, true, true, true, true, true, true, true, true, true, false, false, false, false, false, false, false, false, false]
abbrev z3_49 : Array Bool := #[true, true, true, true, true, true, true, true, true, true, true, true, true, true, true, true, true, true, true, true, true, true, true, true, true, true, false, false, false, false, false, false, false, false]
abbrev z3_50 : Array Bool := #[true, true, true, true, true, true, true, true, true, true, true, true, true, true, true, true, true, true, true, true, true, true, true, true, true, true, true, false, false, false, false, false, false, false]
abbrev z3_51 : Array Bool := #[true, true, true, true, true, true, true, true, true, true, true, true, true, true, true, true, true, true, true, true, true, true, true, true, true, true, true, true, false, false, false, false, false, false]
abbrev z3_52 : Array Bool := #[true, true, true, true, true, true, true, true, true, true, true, true, true, true, true, true, true, true, true, true, true, true, true, true, true, true, true, true, true, false, false, false, false, false]
abbrev z3_53 : Array Bool := #[true, true, true, true, true, true, true, true, true, true, true, true, true, true, true, true, true, true, true, true, true, true, true, true, true, true, true, true, true, true, false, false, false, false]
abbrev z3_54 : Array Bool := #[true, true, true, true, true, true, true, true, true, true, true, true, true, true, true, true, true, true, true, true, true, true, true, true, true, true, true, true, true, true, true, false, false, false]
abbrev z3_55 : Array Bool := #[true, true, true, true, true, true, true, true, true, true, true, true, true, true, true, true, true, true, true, true, true, true, true, true, true, true, true, true, true, true, true, true, false, false]
abbrev z3_56 : Array Bool := #[true, true, true, true, true, true, true, true, true, true, true, true, true, true, true, true, true, true, true, true, true, true, true, true, true, true, true, true, true, true, true, true, true, false]
abbrev z3_57 : Array Bool := #[true, true, true, true, true, true, true, true, true, true, true, true, true, true, true, true, true, true, true, true, true, true, true, true, true, true, true, true, true, true, true, true, true, true]
abbrev z3_58 : Array Bool := #[true, true, true, true, true, true, true, true, true, true, false, false, false, false, false, false, false, false, false, false, false, false]
abbrev z3_59 : Array Bool := #[true, true, true, true, true, true, true, true, true, true, true, false, false, false, false, false, false, false, false, false, false, false]
abbrev z3_60 : Array Bool := #[true, true, true, true, true, true, true, true, true, true, true, true, false, false, false, false, false, false, false, false, false, false]
abbrev z3_61 : Array Bool := #[true, true, true, true, true, true, true, true, true, true, true, true, true, false, false, false, false, false, false, false, false, false]
abbrev z3_62 : Array Bool := #[true, true, true, true, true, true, true, true, true, true, true, true, true, true, false, false, false, false, false, false, false, false]
abbrev z3_63 : Array Bool := #[true, true, true, true, true, true, true, true, true, true, true, true, true, true, true, false, false, false, false, false, false, false]
abbrev z3_64 : Array Bool := #[true, true, true, true, true, true, true, true, true, true, true, true, true, true, true, true, false, false, false, false, false, false]
abbrev z3_65 : Array Bool := #[true, true, true, true, true, true, true, true, true, true, true, true, true, true, true, true, true, false, false, false, false, false]
abbrev rA3 := @Kd.R_alloc
abbrev rN3 := @Kd.R_drewN
abbrev rD3 := @Kd.R_drew
abbrev bN3 := @blk_drewN
abbrev bD3 := @blk_drew
abbrev bA3 := @blk_alloc
abbrev bS3 := @below_set
abbrev eN3 := @pw_below_drewN
abbrev eD3 := @below_drew1
abbrev bC3 := @blk_cell
abbrev rR3 := @Kd.R_reads'
abbrev rF3 := @Kd.R_far
/-! ### laws_FnNearAll: function 3 -/
mutual
def laws_FnNearAll.j0 : Nat → Int → List Int → Bool → Int → List (S33) → Option (Bool)
  | 0, _, _, _, _, _ => none
  | k + 1, x4, x5, x31, x294000, x294001 => if x31 = true then ((spec_NearAll.f k x294000 x294001 x4).bind fun t301 => ((laws_wkInts.f k x5 t301).bind fun t304 => (some t304))) else (if 0 ≤ x294000 then (if (x294000 : Int).toNat ≤ 281474976710656 then ((some (List.replicate (x294000 : Int).toNat false : List Bool)).bind fun y305 => (if 0 ≤ x4 then (if x4 < (y305.length : Int) then (laws_FnNearAll.l0 k x4 x5 (y305.set (x4 : Int).toNat true) 0 x294000 x294001) else (none)) else (none))) else (none)) else (none))
def laws_FnNearAll.l0 : Nat → Int → List Int → List Bool → Int → Int → List (S33) → Option (Bool)
  | 0, _, _, _, _, _, _ => none
  | k + 1, x4, x5, x6, x7, x294000, x294001 => if x7 < (x294001.length : Int) then (if 0 ≤ x7 then (if 0 ≤ ((rd_T33 x294001 x7).f0) then (if ((rd_T33 x294001 x7).f0) < (x5.length : Int) then (if (rd x5 ((rd_T33 x294001 x7).f0)) < 99999 then (if 0 ≤ ((rd_T33 x294001 x7).f1) then (if ((rd_T33 x294001 x7).f1) < (x5.length : Int) then (if (rd x5 ((rd_T33 x294001 x7).f1)) > (wrap64 ((rd x5 ((rd_T33 x294001 x7).f0)) + ((rd_T33 x294001 x7).f2))) then (some false) else (if ((rd_T33 x294001 x7).f1) < (x6.length : Int) then (if rdOf false x6 ((rd_T33 x294001 x7).f1) = true then (laws_FnNearAll.l0 k x4 x5 (x6.set (((rd_T33 x294001 x7).f1) : Int).toNat true) (wrap64 (x7 + 1)) x294000 x294001) else (laws_FnNearAll.l0 k x4 x5 (x6.set (((rd_T33 x294001 x7).f1) : Int).toNat ((rd x5 ((rd_T33 x294001 x7).f1)) == (wrap64 ((rd x5 ((rd_T33 x294001 x7).f0)) + ((rd_T33 x294001 x7).f2))))) (wrap64 (x7 + 1)) x294000 x294001)) else (none))) else (none)) else (none)) else (if 0 ≤ ((rd_T33 x294001 x7).f1) then (if ((rd_T33 x294001 x7).f1) < (x6.length : Int) then (if rdOf false x6 ((rd_T33 x294001 x7).f1) = true then (laws_FnNearAll.l0 k x4 x5 (x6.set (((rd_T33 x294001 x7).f1) : Int).toNat true) (wrap64 (x7 + 1)) x294000 x294001) else (laws_FnNearAll.l0 k x4 x5 (x6.set (((rd_T33 x294001 x7).f1) : Int).toNat false) (wrap64 (x7 + 1)) x294000 x294001)) else (none)) else (none))) else (none)) else (none)) else (none)) else (laws_FnNearAll.l1 k x4 x5 x6 0 x294000 x294001)
def laws_FnNearAll.l1 : Nat → Int → List Int → List Bool → Int → Int → List (S33) → Option (Bool)
  | 0, _, _, _, _, _, _ => none
  | k + 1, x4, x5, x6, x9, x294000, x294001 => if x9 < x294000 then (if 0 ≤ x9 then (if x9 < (x5.length : Int) then (if (rd x5 x9) < 0 then (some false) else (if (rd x5 x9) > 99999 then (some false) else (if (rd x5 x9) < 99999 then (if x9 < (x6.length : Int) then (if rdOf false x6 x9 = true then (laws_FnNearAll.l1 k x4 x5 x6 (wrap64 (x9 + 1)) x294000 x294001) else (some false)) else (none)) else (laws_FnNearAll.l1 k x4 x5 x6 (wrap64 (x9 + 1)) x294000 x294001)))) else (none)) else (none)) else (if 0 ≤ x4 then (if x4 < (x5.length : Int) then (if (rd x5 x4) = 0 then (some ((x5.length : Int) == x294000)) else (some false)) else (none)) else (none))
end
def laws_FnNearAll.f (k : Nat) (l0 : List Int) : Option (Bool) := if (l0.length : Int) > 1048576 then (some true) else ((spec_DrawNearAll.f k l0).bind fun bt288 => ((impl_NearAll.f k bt288.1 bt288.2.1 bt288.2.2).bind fun t294 => ((spec_NearAll.f k bt288.1 bt288.2.1 bt288.2.2).bind fun t297 => ((laws_wkInts.f k t294 t297).bind fun t300 => (if t300 = true then (laws_FnNearAll.j0 k bt288.2.2 t294 ((t294.length : Int) == 0) bt288.1 bt288.2.1) else (laws_FnNearAll.j0 k bt288.2.2 t294 true bt288.1 bt288.2.1))))))
theorem laws_FnNearAll.mono_l : ∀ k, (∀ y0 y1 y2 y3 y4, LeO (laws_FnNearAll.j0 k y0 y1 y2 y3 y4) (laws_FnNearAll.j0 (k + 1) y0 y1 y2 y3 y4)) ∧ (∀ y0 y1 y2 y3 y4 y5, LeO (laws_FnNearAll.l0 k y0 y1 y2 y3 y4 y5) (laws_FnNearAll.l0 (k + 1) y0 y1 y2 y3 y4 y5)) ∧ (∀ y0 y1 y2 y3 y4 y5, LeO (laws_FnNearAll.l1 k y0 y1 y2 y3 y4 y5) (laws_FnNearAll.l1 (k + 1) y0 y1 y2 y3 y4 y5))
  | 0 => ⟨fun _ _ _ _ _ r h => by simp [laws_FnNearAll.j0] at h, fun _ _ _ _ _ _ r h => by simp [laws_FnNearAll.l0] at h, fun _ _ _ _ _ _ r h => by simp [laws_FnNearAll.l1] at h⟩
  | k + 1 => by
    obtain ⟨ih0, ih1, ih2⟩ := laws_FnNearAll.mono_l k
    refine ⟨?_, ?_, ?_⟩
    · intro y0 y1 y2 y3 y4
      unfold laws_FnNearAll.j0
      repeat' first
      | (with_reducible exact ih0 _ _ _ _ _)
      | (with_reducible exact ih1 _ _ _ _ _ _)
      | (with_reducible exact ih2 _ _ _ _ _ _)
      | (with_reducible exact impl_NearAll.mono _ _ _ _)
      | (with_reducible exact laws_wkInts.mono _ _ _)
      | (with_reducible exact spec_DrawNearAll.mono _ _)
      | (with_reducible exact spec_NearAll.mono _ _ _ _)
      | (with_reducible exact LeO.refl _)
      | (with_reducible exact LeO.none _)
      | (with_reducible refine LeO.ite ?_ ?_)
      | (with_reducible refine LeO.bind ?_ (fun _ => ?_))
      | exact ih0 _ _ _ _ _
      | exact ih1 _ _ _ _ _ _
      | exact ih2 _ _ _ _ _ _
      | exact impl_NearAll.mono _ _ _ _
      | exact laws_wkInts.mono _ _ _
      | exact spec_DrawNearAll.mono _ _
      | exact spec_NearAll.mono _ _ _ _
      | exact LeO.none _
      | refine LeO.ite ?_ ?_
      | refine LeO.bind ?_ (fun _ => ?_)
    · intro y0 y1 y2 y3 y4 y5
      unfold laws_FnNearAll.l0
      repeat' first
      | (with_reducible exact ih0 _ _ _ _ _)
      | (with_reducible exact ih1 _ _ _ _ _ _)
      | (with_reducible exact ih2 _ _ _ _ _ _)
      | (with_reducible exact impl_NearAll.mono _ _ _ _)
      | (with_reducible exact laws_wkInts.mono _ _ _)
      | (with_reducible exact spec_DrawNearAll.mono _ _)
      | (with_reducible exact spec_NearAll.mono _ _ _ _)
      | (with_reducible exact LeO.refl _)
      | (with_reducible exact LeO.none _)
      | (with_reducible refine LeO.ite ?_ ?_)
      | (with_reducible refine LeO.bind ?_ (fun _ => ?_))
      | exact ih0 _ _ _ _ _
      | exact ih1 _ _ _ _ _ _
      | exact ih2 _ _ _ _ _ _
      | exact impl_NearAll.mono _ _ _ _
      | exact laws_wkInts.mono _ _ _
      | exact spec_DrawNearAll.mono _ _
      | exact spec_NearAll.mono _ _ _ _
      | exact LeO.none _
      | refine LeO.ite ?_ ?_
      | refine LeO.bind ?_ (fun _ => ?_)
    · intro y0 y1 y2 y3 y4 y5
      unfold laws_FnNearAll.l1
      repeat' first
      | (with_reducible exact ih0 _ _ _ _ _)
      | (with_reducible exact ih1 _ _ _ _ _ _)
      | (with_reducible exact ih2 _ _ _ _ _ _)
      | (with_reducible exact impl_NearAll.mono _ _ _ _)
      | (with_reducible exact laws_wkInts.mono _ _ _)
      | (with_reducible exact spec_DrawNearAll.mono _ _)
      | (with_reducible exact spec_NearAll.mono _ _ _ _)
      | (with_reducible exact LeO.refl _)
      | (with_reducible exact LeO.none _)
      | (with_reducible refine LeO.ite ?_ ?_)
      | (with_reducible refine LeO.bind ?_ (fun _ => ?_))
      | exact ih0 _ _ _ _ _
      | exact ih1 _ _ _ _ _ _
      | exact ih2 _ _ _ _ _ _
      | exact impl_NearAll.mono _ _ _ _
      | exact laws_wkInts.mono _ _ _
      | exact spec_DrawNearAll.mono _ _
      | exact spec_NearAll.mono _ _ _ _
      | exact LeO.none _
      | refine LeO.ite ?_ ?_
      | refine LeO.bind ?_ (fun _ => ?_)
theorem laws_FnNearAll.mono : ∀ a0 k, LeO (laws_FnNearAll.f k a0) (laws_FnNearAll.f (k + 1) a0) := by
  intro a0 k
  obtain ⟨ih0, ih1, ih2⟩ := laws_FnNearAll.mono_l k
  unfold laws_FnNearAll.f
  repeat' first
      | (with_reducible exact ih0 _ _ _ _ _)
      | (with_reducible exact ih1 _ _ _ _ _ _)
      | (with_reducible exact ih2 _ _ _ _ _ _)
      | (with_reducible exact impl_NearAll.mono _ _ _ _)
      | (with_reducible exact laws_wkInts.mono _ _ _)
      | (with_reducible exact spec_DrawNearAll.mono _ _)
      | (with_reducible exact spec_NearAll.mono _ _ _ _)
      | (with_reducible exact LeO.refl _)
      | (with_reducible exact LeO.none _)
      | (with_reducible refine LeO.ite ?_ ?_)
      | (with_reducible refine LeO.bind ?_ (fun _ => ?_))
      | exact ih0 _ _ _ _ _
      | exact ih1 _ _ _ _ _ _
      | exact ih2 _ _ _ _ _ _
      | exact impl_NearAll.mono _ _ _ _
      | exact laws_wkInts.mono _ _ _
      | exact spec_DrawNearAll.mono _ _
      | exact spec_NearAll.mono _ _ _ _
      | exact LeO.none _
      | refine LeO.ite ?_ ?_
      | refine LeO.bind ?_ (fun _ => ?_)
def laws_FnNearAll.T13 : Bool × List (List Nat × List Nat) := (true, [([], []), ([], []), ([1], [1]), ([0, 2], [0, 2]), ([3], [3]), ([4], [4]), ([5], [5]), ([6], [6]), ([6], [6]), ([8, 6], [6, 8]), ([7, 9, 6], [6, 7, 9]), ([10, 6], [6, 10]), ([6], [6]), ([6], [6]), ([13, 6], [6, 13]), ([12, 14, 6], [6, 12, 14]), ([15, 6], [6, 15]), ([6], [6]), ([17, 6], [6, 17]), ([16, 18, 6], [6, 16, 18]), ([11, 19, 6], [6, 11, 19]), ([6, 20], [6, 20])])
def laws_FnNearAll.B13 : List Nat := [0, 0, 2, 7, 15, 31, 63, 127, 127, 383, 1023, 2047, 127, 127, 8319, 28799, 61567, 127, 131199, 520319, 1048575, 2097151]
theorem laws_FnNearAll.tab13 : rtab .any (opsOf Try.f3 13) = laws_FnNearAll.T13 := by kernel_rfl
theorem laws_FnNearAll.bits13 : waitsOk laws_FnNearAll.T13.2 laws_FnNearAll.B13 = true := by kernel_rfl
def laws_FnNearAll.T15 : Bool × List (List Nat × List Nat) := (true, [([], []), ([], []), ([1], [1]), ([], []), ([], []), ([4], [4]), ([3, 5], [3, 5]), ([6], [6]), ([7], [7]), ([8], [8]), ([8], [8]), ([10, 8], [8, 10]), ([9, 11, 8], [8, 9, 11]), ([12, 8], [8, 12]), ([13, 8], [8, 13]), ([14, 8, 8], [8, 14]), ([15], [15]), ([15], [15]), ([17, 15], [15, 17]), ([16, 18, 15], [15, 16, 18]), ([19, 15], [15, 19]), ([15], [15]), ([15], [15]), ([22, 15], [15, 22]), ([21, 23, 15], [15, 21, 23]), ([24, 15], [15, 24]), ([15], [15]), ([26, 15], [15, 26]), ([25, 27, 15], [15, 25, 27]), ([20, 28, 15], [15, 20, 28]), ([15, 29, 8], [8, 15, 29]), ([8, 30], [8, 30]), ([0, 2, 0, 1, 2, 3, 4, 5, 6, 7, 8, 9, 10, 11, 12, 13, 14, 15, 16, 17, 18, 19, 20, 21, 22, 23, 24, 25, 26, 27, 28, 29, 30, 31], [0, 2]), ([32, 31, 15, 0, 1, 2, 3, 4, 5, 6, 7, 8, 9, 10, 11, 12, 13, 14, 15, 16, 17, 18, 19, 20, 21, 22, 23, 24, 25, 26, 27, 28, 29, 30, 31], [31, 32])])
def laws_FnNearAll.B15 : List Nat := [0, 0, 2, 0, 0, 16, 56, 120, 248, 504, 504, 1528, 4088, 8184, 16376, 32760, 65528, 65528, 196600, 524280, 1048568, 65528, 65528, 4259832, 14745592, 31522808, 65528, 67174392, 266403832, 536870904, 1073741816, 2147483640, 4294967295, 8589934591]
theorem laws_FnNearAll.tab15 : rtab .any (opsOf Try.f3 15) = laws_FnNearAll.T15 := by kernel_rfl
theorem laws_FnNearAll.bits15 : waitsOk laws_FnNearAll.T15.2 laws_FnNearAll.B15 = true := by kernel_rfl
set_option maxHeartbeats 200000000 in
set_option maxRecDepth 100000 in
theorem laws_FnNearAll.calls (k : Nat) (A0 : Option Addr) (c0 : Nat) (l0 : List Int) (r : Bool) (w : World) (hr0 : Kd.C (Kd.int .u8) w A0 l0.length l0) (hc0 : l0.length ≤ c0) (h : laws_FnNearAll.f k l0 = some r) :
    Calls Try.prog 3 #[.slice A0 l0.length c0] w fun e w' => e = .returned (.bool r) ∧ Below w.heap.size w w' := by
  have hu25 := Try.underlying25
  have hu33 := Try.underlying33
  have HR0 := Aside0.mk hr0
  have HC0 := Aside0.mk hc0
  clear hr0 hc0
  have HB := Aside0.mk (Below.refl w.heap.size w)
  have H : (if (l0.length : Int) > 1048576 then (some true) else ((spec_DrawNearAll.f k l0).bind fun bt288 => ((impl_NearAll.f k bt288.1 bt288.2.1 bt288.2.2).bind fun t294 => ((spec_NearAll.f k bt288.1 bt288.2.1 bt288.2.2).bind fun t297 => ((laws_wkInts.f k t294 t297).bind fun t300 => (if t300 = true then (laws_FnNearAll.j0 k bt288.2.2 t294 ((t294.length : Int) == 0) bt288.1 bt288.2.1) else (laws_FnNearAll.j0 k bt288.2.2 t294 true bt288.1 bt288.2.1))))))) = some r := h
  clear h
  by_cases c2 : (l0.length : Int) > 1048576
  ·rw [if_pos c2] at H
   have c2b0 : decide (1048576 < (l0.length : Int)) = true := decide_eq_true c2
   have c2b1 : decide (1048576 < l0.length) = true := decide_eq_true (by omega)
   clear c2
   obtain rfl := Option.some.inj H
   go_enter Try.func3, Try.ntmps3
   go_wp2
   go_ret
   exact ⟨by first | rfl | (simp [errW_none, errW_some] <;> rfl) | (simp [*, errW_none, errW_some] <;> rfl), by repeat (first | (with_reducible first | exact HB.out | apply below_alloc | apply eN3 | apply eD3) | exact HB.out)⟩
  ·rw [if_neg c2] at H
   have c2b0 : decide (1048576 < (l0.length : Int)) = false := decide_eq_false c2
   have c2b1 : decide (1048576 < l0.length) = false := decide_eq_false (by omega)
   clear c2
   replace H := Option.bind_eq_some_iff.mp H
   obtain ⟨⟨t288, t289, t292⟩, A30, H⟩ := H
   try dsimp only at H
   have A3 := Aside0.mk A30
   clear A30
   replace H := Option.bind_eq_some_iff.mp H
   obtain ⟨t294, A40, H⟩ := H
   try dsimp only at H
   have A4 := Aside0.mk A40
   clear A40
   have HC5 := Aside0.mk H
   clear H
   go_enter Try.func3, Try.ntmps3
   go_upto_region 5 with (first | ((with_reducible refine gate_callee (f := 13) rfl ?_); refine goesL_ (some 15) rfl rfl Try.func13 (by kernel_rfl) rfl #[.slice A0 l0.length c0] rfl na_ ?_; (with_reducible refine (spec_DrawNearAll.calls k _ _ l0 t288 t289 t292 _ ?side1 ?side2 A3.out).mono ?_); (case side1 => repeat (first | exact HR0.out | (with_reducible refine Kd.C_alloc ?_ _) | (with_reducible refine Kd.C_drewN ?_ _) | (with_reducible refine Kd.C_drew ?_))); (case side2 => exact HC0.out); rintro e w6 ⟨v290, rfl, ho0, hb⟩; refine ⟨_, rfl, ?_⟩; have n0_ := Aside0.mk (Kd.R_lower ho0 (below_size (ne_ HB.out))); have n1_ := Aside0.mk (below_step (ne_ HB.out) hb); clear HB; have HO291 := n0_; have HB := n1_; clear n0_ n1_; (try clear hb); (try clear hb2); (try clear hk); (try clear hi); (try clear ho0)) | ((with_reducible refine gate_dst (N := 3) rfl ?_); (try (refine gate_guard (by rfl) ?_; dsimp only)); refine box_event ?hg (N := 3) ?hd (cs := #[.int .i64 0, .slice none 0 0]) (t := 25) ?hr ?_; (case hd => rfl); (case hg => rfl); (case hr => first | (go_simp; done) | (go_simp; rfl)); intro gb293 hg w7 hbox hb; have n0_ := Aside0.mk (Kd.R_below (nr_ HO291.out) hb); have n1_ := Aside0.mk (below_step (ne_ HB.out) hb); have n2_ := Aside0.mk (hbox); have n3_ := Aside0.mk ((by rw [hg]; exact (below_size (ne_ HB.out)) : w.heap.size ≤ gb293)); have n4_ := Aside0.mk ((by rw [hg]; exact (below_size (ne_ HB.out)) : w.heap.size ≤ gb293)); clear HO291; clear HB; have HO291 := n0_; have HB := n1_; have BK293 := n2_; have GW293 := n3_; have GE293 := n4_; clear n0_ n1_ n2_ n3_ n4_; clear hb hbox hg; have hcz8_0 : w7.cell? ⟨gb293, 0, none⟩ = some (.int .i64 0) := (bC3 BK293.out 0).trans rfl; have hcz8_1 : w7.cell? ⟨gb293, 1, none⟩ = some (.slice none 0 0) := (bC3 BK293.out 1).trans rfl; have hfz8_0 := blk_frozen BK293.out 0; have hfz8_1 := blk_frozen BK293.out 1; obtain ⟨Ao9, co9, eo9⟩ := Kd.R_slice HO291.out; subst eo9) | ((with_reducible refine gate_callee (f := 14) rfl ?_); refine goesL_ (some 20) rfl rfl Try.func14 (by kernel_rfl) rfl #[.agg #[.int .i64 t288, .slice Ao9 t289.length co9], .int .i64 t292] rfl na_ ?_; (with_reducible refine (impl_NearAll.calls k t288 _ _ t289 t292 t294 _ ?side1 ?side2 A4.out).mono ?_); (case side1 => refine (rR3 (e := 33) (base := w.heap.size) (ok := fun k_ => True) (n := t289.length) (c := co9) ?_).2.2; exact (by (with_reducible repeat (first | apply rA3 | apply rN3 | apply rD3)); exact (Kd.R_mono (rF3 (p := ⟨gb293, 1, none⟩) (rF3 (p := ⟨gb293, 0, none⟩) (Kd.R_types HO291.out BK293.out (by decide)) (fun _ hk => hk.2) (.int .i64 t288)) (fun _ hk => hk.2) (.slice Ao9 t289.length co9)) (fun _ h_ => h_.1)))); (case side2 => exact (rR3 HO291.out).2.1); rintro e w10 ⟨v295, rfl, ho0, hb⟩; refine ⟨_, rfl, ?_⟩; have n0_ := Aside0.mk (Kd.R_below (by (with_reducible repeat (first | apply rA3 | apply rN3 | apply rD3)); exact (Kd.R_mono (rF3 (p := ⟨gb293, 1, none⟩) (rF3 (p := ⟨gb293, 0, none⟩) (Kd.R_types HO291.out BK293.out (by decide)) (fun _ hk => hk.2) (.int .i64 t288)) (fun _ hk => hk.2) (.slice Ao9 t289.length co9)) (fun _ h_ => h_.1))) hb); have n1_ := Aside0.mk (Kd.R_lower ho0 (below_size (ne_ HB.out))); have n2_ := Aside0.mk (blk_below (g := gb293) (o := .cells #[.int .i64 t288, .slice Ao9 t289.length co9] 25 (0, 0)) (by (with_reducible repeat (first | refine bN3 ?_ _ | refine bD3 ?_ | refine bA3 ?_ _)); refine blk_put (cs := #[.int .i64 t288, .slice none 0 0]) ?_ 1 _ rfl; (with_reducible repeat (first | refine bN3 ?_ _ | refine bD3 ?_ | refine bA3 ?_ _)); refine blk_put (cs := #[.int .i64 0, .slice none 0 0]) ?_ 0 _ rfl; (with_reducible repeat (first | refine bN3 ?_ _ | refine bD3 ?_ | refine bA3 ?_ _)); exact BK293.out) hb); have n3_ := Aside0.mk (below_step (ne_ HB.out) hb); clear HO291; clear BK293; clear HB; have HO291 := n0_; have HO296 := n1_; have BK293 := n2_; have HB := n3_; clear n0_ n1_ n2_ n3_; (try clear hb); (try clear hb2); (try clear hk); (try clear hi); (try clear ho0)))
   (try simp only [Act.put, List.setIfInBounds_toArray, List.set_cons_zero, List.set_cons_succ])
   go_cut [31] (fun v31 wc => ∃ (kq : Nat) (x31_4 : Bool), v31 = .bool x31_4 ∧ Aside0 (laws_FnNearAll.j0 kq t292 t294 x31_4 t288 t289 = some r) ∧ Aside0 (kq ≤ k) ∧ Aside0 (Kd.R (Kd.int .i64) 3 wc w.heap.size (fun _ => True) v295 t294) ∧ Aside0 (Kd.R k33 33 wc w.heap.size (fun _ => True) (.slice Ao9 t289.length co9) t289) ∧ Aside0 (wc.heap[gb293]? = some (.cells #[.int .i64 t288, (.slice Ao9 t289.length co9)] 25 (0, 0))) ∧ Aside0 (Below w.heap.size w wc))
   case first =>
    have H := HC5.out
    clear HC5
    replace H := Option.bind_eq_some_iff.mp H
    obtain ⟨t297, A110, H⟩ := H
    try dsimp only at H
    have A11 := Aside0.mk A110
    clear A110
    replace H := Option.bind_eq_some_iff.mp H
    obtain ⟨t300, A120, H⟩ := H
    try dsimp only at H
    have A12 := Aside0.mk A120
    clear A120
    by_cases c13 : t300 = true
    ·subst c13
     have H1 : (laws_FnNearAll.j0 k t292 t294 ((t294.length : Int) == 0) t288 t289) = some r := by rw [if_pos rfl] at H; exact H
     clear H
     have H := H1
     clear H1
     have H' := Aside0.mk H
     clear H
     have hcz14_0 : w10.cell? ⟨gb293, 0, none⟩ = some (.int .i64 t288) := (bC3 BK293.out 0).trans rfl
     have hcz14_1 : w10.cell? ⟨gb293, 1, none⟩ = some (.slice Ao9 t289.length co9) := (bC3 BK293.out 1).trans rfl
     have hfz14_0 := blk_frozen BK293.out 0
     have hfz14_1 := blk_frozen BK293.out 1
     go_wp2_with (first | ((with_reducible refine gate_callee (f := 16) rfl ?_); refine goesL_ (some 24) rfl rfl Try.func16 (by kernel_rfl) rfl #[.agg #[.int .i64 t288, .slice Ao9 t289.length co9], .int .i64 t292] rfl na_ ?_; (with_reducible refine (spec_NearAll.calls k t288 _ _ t289 t292 t297 _ ?side1 ?side2 A11.out).mono ?_); (case side1 => exact nc_ (rR3 HO291.out).2.2); (case side2 => exact (rR3 HO291.out).2.1); rintro e w15 ⟨v298, rfl, ho0, hb⟩; refine ⟨_, rfl, ?_⟩; have n0_ := Aside0.mk (Kd.R_below (nr_ HO291.out) hb); have n1_ := Aside0.mk (Kd.R_elder' (nr_ HO296.out) (Kd.R_base ho0) hb); have n2_ := Aside0.mk (Kd.R_lower (Kd.R_new' ho0 (Kd.R_lt (nr_ HO296.out))) (below_size (ne_ HB.out))); have n3_ := Aside0.mk (blk_below (g := gb293) (o := .cells #[.int .i64 t288, .slice Ao9 t289.length co9] 25 (0, 0)) (nb_ BK293.out) hb); have n4_ := Aside0.mk (below_step (ne_ HB.out) hb); clear HO291; clear HO296; clear BK293; clear HB; have HO291 := n0_; have HO296 := n1_; have HO299 := n2_; have BK293 := n3_; have HB := n4_; clear n0_ n1_ n2_ n3_ n4_; (try clear hb); (try clear hb2); (try clear hk); (try clear hi); (try clear ho0); obtain ⟨Ao16, co16, eo16⟩ := Kd.R_slice HO296.out; subst eo16; obtain ⟨Ao17, co17, eo17⟩ := Kd.R_slice HO299.out; subst eo17) | ((with_reducible refine gate_callee (f := 15) rfl ?_); refine goesL_ (some 25) rfl rfl Try.func15 (by kernel_rfl) rfl #[.slice Ao16 t294.length co16, .slice Ao17 t297.length co17] rfl na_ ?_; (with_reducible refine (laws_wkInts.calls k _ _ t294 _ _ t297 true _ ?side1 ?side2 ?side3 ?side4 A12.out).mono ?_); (case side1 => exact nc_ (rR3 HO296.out).2.2); (case side2 => exact (rR3 HO296.out).2.1); (case side3 => exact nc_ (rR3 HO299.out).2.2); (case side4 => exact (rR3 HO299.out).2.1); rintro e w' ⟨rfl, ⟨nd, rfl⟩⟩; refine ⟨_, rfl, ?_⟩))
     go_meet
     case rel => exact ⟨_, (((t294.length : Int) == 0)), ns_, H', ⟨by first | omega | exact Nat.le_refl _⟩, ⟨by (with_reducible repeat (first | apply rA3 | apply rN3 | apply rD3)); exact Kd.R_mono HO296.out (fun _ hk => trivial)⟩, ⟨by (with_reducible repeat (first | apply rA3 | apply rN3 | apply rD3)); exact HO291.out⟩, ⟨by (with_reducible repeat (first | refine bN3 ?_ _ | refine bD3 ?_ | refine bA3 ?_ _)); exact BK293.out⟩, ⟨by repeat (first | (with_reducible first | exact HB.out | apply below_alloc | apply eN3 | apply eD3 | refine bS3 ?_ GE293.out) | exact HB.out)⟩⟩
    ·replace c13 := Bool.eq_false_iff.mpr c13
     subst c13
     have H1 : (laws_FnNearAll.j0 k t292 t294 true t288 t289) = some r := by rw [if_neg (show ¬ (false = true) by decide)] at H; exact H
     clear H
     have H := H1
     clear H1
     have H' := Aside0.mk H
     clear H
     have hcz18_0 : w10.cell? ⟨gb293, 0, none⟩ = some (.int .i64 t288) := (bC3 BK293.out 0).trans rfl
     have hcz18_1 : w10.cell? ⟨gb293, 1, none⟩ = some (.slice Ao9 t289.length co9) := (bC3 BK293.out 1).trans rfl
     have hfz18_0 := blk_frozen BK293.out 0
     have hfz18_1 := blk_frozen BK293.out 1
     go_wp2_with (first | ((with_reducible refine gate_callee (f := 16) rfl ?_); refine goesL_ (some 24) rfl rfl Try.func16 (by kernel_rfl) rfl #[.agg #[.int .i64 t288, .slice Ao9 t289.length co9], .int .i64 t292] rfl na_ ?_; (with_reducible refine (spec_NearAll.calls k t288 _ _ t289 t292 t297 _ ?side1 ?side2 A11.out).mono ?_); (case side1 => exact nc_ (rR3 HO291.out).2.2); (case side2 => exact (rR3 HO291.out).2.1); rintro e w19 ⟨v298, rfl, ho0, hb⟩; refine ⟨_, rfl, ?_⟩; have n0_ := Aside0.mk (Kd.R_below (nr_ HO291.out) hb); have n1_ := Aside0.mk (Kd.R_elder' (nr_ HO296.out) (Kd.R_base ho0) hb); have n2_ := Aside0.mk (Kd.R_lower (Kd.R_new' ho0 (Kd.R_lt (nr_ HO296.out))) (below_size (ne_ HB.out))); have n3_ := Aside0.mk (blk_below (g := gb293) (o := .cells #[.int .i64 t288, .slice Ao9 t289.length co9] 25 (0, 0)) (nb_ BK293.out) hb); have n4_ := Aside0.mk (below_step (ne_ HB.out) hb); clear HO291; clear HO296; clear BK293; clear HB; have HO291 := n0_; have HO296 := n1_; have HO299 := n2_; have BK293 := n3_; have HB := n4_; clear n0_ n1_ n2_ n3_ n4_; (try clear hb); (try clear hb2); (try clear hk); (try clear hi); (try clear ho0); obtain ⟨Ao20, co20, eo20⟩ := Kd.R_slice HO296.out; subst eo20; obtain ⟨Ao21, co21, eo21⟩ := Kd.R_slice HO299.out; subst eo21) | ((with_reducible refine gate_callee (f := 15) rfl ?_); refine goesL_ (some 25) rfl rfl Try.func15 (by kernel_rfl) rfl #[.slice Ao20 t294.length co20, .slice Ao21 t297.length co21] rfl na_ ?_; (with_reducible refine (laws_wkInts.calls k _ _ t294 _ _ t297 false _ ?side1 ?side2 ?side3 ?side4 A12.out).mono ?_); (case side1 => exact nc_ (rR3 HO296.out).2.2); (case side2 => exact (rR3 HO296.out).2.1); (case side3 => exact nc_ (rR3 HO299.out).2.2); (case side4 => exact (rR3 HO299.out).2.1); rintro e w' ⟨rfl, ⟨nd, rfl⟩⟩; refine ⟨_, rfl, ?_⟩))
     go_meet
     case rel => exact ⟨_, (true), ns_, H', ⟨by first | omega | exact Nat.le_refl _⟩, ⟨by (with_reducible repeat (first | apply rA3 | apply rN3 | apply rD3)); exact Kd.R_mono HO296.out (fun _ hk => trivial)⟩, ⟨by (with_reducible repeat (first | apply rA3 | apply rN3 | apply rD3)); exact HO291.out⟩, ⟨by (with_reducible repeat (first | refine bN3 ?_ _ | refine bD3 ?_ | refine bA3 ?_ _)); exact BK293.out⟩, ⟨by repeat (first | (with_reducible first | exact HB.out | apply below_alloc | apply eN3 | apply eD3 | refine bS3 ?_ GE293.out) | exact HB.out)⟩⟩
   case rest =>
    clear HC5
    try clear c1
    try clear c2
    try clear c2b0
    try clear c2b1
    try clear p2
    try clear c3
    try clear c13
    try clear c14
    try clear c15
    try clear c16
    try clear hcz14_0
    try clear hcz14_1
    try clear hcz18_0
    try clear hcz18_1
    try clear hcz8_0
    try clear hcz8_1
    try clear hfz14_0
    try clear hfz14_1
    try clear hfz18_0
    try clear hfz18_1
    try clear hfz8_0
    try clear hfz8_1
    obtain ⟨kq, x31_4, rfl, HA, HJ4, HO_5, HO_294001, BK293, HB⟩ := hcut
    cases kq with
    | zero => exact absurd HA.out (by simp [laws_FnNearAll.j0])
    | succ kj4 =>
     have H := HA.out
     clear HA
     simp only [laws_FnNearAll.j0] at H
     by_cases c22 : x31_4 = true
     ·subst c22
      have H1 : ((spec_NearAll.f kj4 t288 t289 t292).bind fun t301 => ((laws_wkInts.f kj4 t294 t301).bind fun t304 => (some t304))) = some r := by rw [if_pos rfl] at H; exact H
      clear H
      have H := H1
      clear H1
      replace H := Option.bind_eq_some_iff.mp H
      obtain ⟨t301, A230, H⟩ := H
      replace H : ((laws_wkInts.f kj4 t294 t301).bind fun t304 => (some t304)) = some r := H
      have A23 := Aside0.mk A230
      clear A230
      replace H := Option.bind_eq_some_iff.mp H
      obtain ⟨t304, A240, H⟩ := H
      replace H : (some t304) = some r := H
      have A24 := Aside0.mk A240
      clear A240
      obtain rfl := Option.some.inj H
      have hcz25_0 : wc.cell? ⟨gb293, 0, none⟩ = some (.int .i64 t288) := (bC3 BK293.out 0).trans rfl
      have hcz25_1 : wc.cell? ⟨gb293, 1, none⟩ = some (.slice Ao9 t289.length co9) := (bC3 BK293.out 1).trans rfl
      have hfz25_0 := blk_frozen BK293.out 0
      have hfz25_1 := blk_frozen BK293.out 1
      go_wp2_with (first | ((with_reducible refine gate_callee (f := 16) rfl ?_); refine goesL_ (some 35) rfl rfl Try.func16 (by kernel_rfl) rfl #[.agg #[.int .i64 t288, .slice Ao9 t289.length co9], .int .i64 t292] rfl na_ ?_; (with_reducible refine (spec_NearAll.calls kj4 t288 _ _ t289 t292 t301 _ ?side1 ?side2 A23.out).mono ?_); (case side1 => exact nc_ (rR3 HO_294001.out).2.2); (case side2 => exact (rR3 HO_294001.out).2.1); rintro e w26 ⟨v302, rfl, ho0, hb⟩; refine ⟨_, rfl, ?_⟩; have n0_ := Aside0.mk (Kd.R_elder' (nr_ HO_5.out) (Kd.R_base ho0) hb); have n1_ := Aside0.mk (Kd.R_below (nr_ HO_294001.out) hb); have n2_ := Aside0.mk (Kd.R_lower (Kd.R_new' ho0 (Kd.R_lt (nr_ HO_5.out))) (below_size (ne_ HB.out))); have n3_ := Aside0.mk (blk_below (g := gb293) (o := .cells #[.int .i64 t288, .slice Ao9 t289.length co9] 25 (0, 0)) (nb_ BK293.out) hb); have n4_ := Aside0.mk (below_step (ne_ HB.out) hb); clear HO_5; clear HO_294001; clear BK293; clear HB; have HO_5 := n0_; have HO_294001 := n1_; have HO303 := n2_; have BK293 := n3_; have HB := n4_; clear n0_ n1_ n2_ n3_ n4_; (try clear hb); (try clear hb2); (try clear hk); (try clear hi); (try clear ho0); obtain ⟨Ao27, co27, eo27⟩ := Kd.R_slice HO_5.out; subst eo27; obtain ⟨Ao28, co28, eo28⟩ := Kd.R_slice HO303.out; subst eo28) | ((with_reducible refine gate_callee (f := 15) rfl ?_); refine goesL_ (some 36) rfl rfl Try.func15 (by kernel_rfl) rfl #[.slice Ao27 t294.length co27, .slice Ao28 t301.length co28] rfl na_ ?_; (with_reducible refine (laws_wkInts.calls kj4 _ _ t294 _ _ t301 t304 _ ?side1 ?side2 ?side3 ?side4 A24.out).mono ?_); (case side1 => exact nc_ (rR3 HO_5.out).2.2); (case side2 => exact (rR3 HO_5.out).2.1); (case side3 => exact nc_ (rR3 HO303.out).2.2); (case side4 => exact (rR3 HO303.out).2.1); rintro e w' ⟨rfl, ⟨nd, rfl⟩⟩; refine ⟨_, rfl, ?_⟩))
      go_ret
      exact ⟨by first | rfl | (simp [errW_none, errW_some] <;> rfl) | (simp [*, errW_none, errW_some] <;> rfl), by repeat (first | (with_reducible first | exact HB.out | apply below_alloc | apply eN3 | apply eD3 | refine bS3 ?_ GE293.out) | exact HB.out)⟩
     ·replace c22 := Bool.eq_false_iff.mpr c22
      subst c22
      have H1 : (if 0 ≤ t288 then (if (t288 : Int).toNat ≤ 281474976710656 then ((some (List.replicate (t288 : Int).toNat false : List Bool)).bind fun y305 => (if 0 ≤ t292 then (if t292 < (y305.length : Int) then (laws_FnNearAll.l0 kj4 t292 t294 (y305.set (t292 : Int).toNat true) 0 t288 t289) else (none)) else (none))) else (none)) else (none)) = some r := by rw [if_neg (show ¬ (false = true) by decide)] at H; exact H
      clear H
      have H := H1
      clear H1
      by_cases c29 : 0 ≤ t288
      ·rw [if_pos c29] at H
       have c29b0 := eq_true c29
       have c29b1 : decide (0 ≤ t288) = true := decide_eq_true c29
       clear c29
       by_cases c30 : (t288 : Int).toNat ≤ 281474976710656
       ·rw [if_pos c30] at H
        have c30b0 := eq_true c30
        have c30b1 : decide ((t288 : Int).toNat ≤ 281474976710656) = true := decide_eq_true c30
        clear c30
        obtain ⟨y305, hy305⟩ : ∃ y_ : List Bool, y_ = (List.replicate (t288 : Int).toNat false) := ⟨_, rfl⟩
        replace H : (if 0 ≤ t292 then (if t292 < (y305.length : Int) then (laws_FnNearAll.l0 kj4 t292 t294 (y305.set (t292 : Int).toNat true) 0 t288 t289) else (none)) else (none)) = some r := by first | (rw [hy305]; with_reducible exact H) | (have H2_ := (Option.bind_some _ _).symm.trans H; rw [hy305]; with_reducible exact H2_) | (have H2_ := (Option.bind_some _ _).symm.trans H; with_reducible exact H2_) | with_reducible exact H | (rw [hy305]; exact H) | exact H
        have Ny305 := Aside0.mk hy305
        clear hy305
        by_cases c31 : 0 ≤ t292
        ·rw [if_pos c31] at H
         have c31b0 : decide (0 ≤ t292) = true := decide_eq_true c31
         clear c31
         by_cases c32 : t292 < (y305.length : Int)
         ·rw [if_pos c32] at H
          have c32b0 : decide (t292 < (y305.length : Int)) = true := decide_eq_true c32
          clear c32
          obtain ⟨y308, hy308⟩ : ∃ y_ : List Bool, y_ = (y305.set (t292 : Int).toNat true) := ⟨_, rfl⟩
          replace H : (laws_FnNearAll.l0 kj4 t292 t294 y308 0 t288 t289) = some r := by first | (rw [hy308]; with_reducible exact H) | (have H2_ := (Option.bind_some _ _).symm.trans H; rw [hy308]; with_reducible exact H2_) | (have H2_ := (Option.bind_some _ _).symm.trans H; with_reducible exact H2_) | with_reducible exact H | (rw [hy308]; exact H) | exact H
          have Ny308 := Aside0.mk hy308
          clear hy308
          have H' := Aside0.mk H
          clear H
          have hcz34_0 : wc.cell? ⟨gb293, 0, none⟩ = some (.int .i64 t288) := (bC3 BK293.out 0).trans rfl
          have hcz34_1 : wc.cell? ⟨gb293, 1, none⟩ = some (.slice Ao9 t289.length co9) := (bC3 BK293.out 1).trans rfl
          have hfz34_0 := blk_frozen BK293.out 0
          have hfz34_1 := blk_frozen BK293.out 1
          go_wp2_with (first | ((with_reducible refine gate_dst (N := 39) rfl ?_); (try (refine gate_guard (by rfl) ?_; dsimp only)); refine Kd.R_make Kd.bool _ 4 rfl (N := 39) rfl 31 _ _ rfl t288 rfl rfl Try.underlying31 (.bool false) 1 info4 rfl (by decide) (by omega) false (ok := fun _ => True) (okp := fun _ => True) rfl (fun _ hk => hk) trivial (of_decide_eq_true nx_) (Nat.le_trans (Nat.mul_le_mul_right _ (of_decide_eq_true nx_ : t288.toNat ≤ 281474976710656)) (by omega)) (Below.refl _ _) (Nat.le_refl _) ?_; intro v306 w35 ho36 hb hg_ hnew_; clear hg_ hnew_; (first | rw [← Ny305.out] at ho36 | (simp only [Int.reduceToNat] at ho36; rw [← Ny305.out] at ho36)); have n0_ := Aside0.mk (Kd.R_below (nr_ HO_5.out) hb); have n1_ := Aside0.mk (Kd.R_below (nr_ HO_294001.out) hb); have n2_ := Aside0.mk (Kd.R_lower ho36 (below_size (ne_ HB.out))); have n3_ := Aside0.mk (blk_below (g := gb293) (o := .cells #[.int .i64 t288, .slice Ao9 t289.length co9] 25 (0, 0)) (nb_ BK293.out) hb); have n4_ := Aside0.mk (below_step (ne_ HB.out) hb); clear HO_5; clear HO_294001; clear BK293; clear HB; have HO_5 := n0_; have HO_294001 := n1_; have HO307 := n2_; have BK293 := n3_; have HB := n4_; clear n0_ n1_ n2_ n3_ n4_; clear hb ho36; have p33 : 0 ≤ (t292 : Int) := of_decide_eq_true nx_; have q33 : (t292 : Int) < ((y305.length : Int) : Int) := of_decide_eq_true nx_; obtain ⟨go33, co33, eo33, gb33, gl33, cl33, HG33⟩ := Kd.R_form HO307.out (by omega); (first | cases eo33 | (injection eo33 with ea_ en_ ec_; (first | subst ea_ | (injection ea_ with ea_; subst ea_)); subst ec_; clear en_)); have GB33 := Aside0.mk gb33; have GG33 := Aside0.mk HG33; clear gb33 gl33 HG33; obtain ⟨hx33_0, hf33_0⟩ := Kd.R_celln false HO307.out (t292 : Int) p33 q33; replace p33 := eq_true p33; replace q33 := eq_true q33; obtain ⟨hy37_, hz37_⟩ := Kd.R_celln false HO307.out (t292 : Int) (of_decide_eq_true nx_) (of_decide_eq_true nx_); have HP37 := Kd.R_putg HO307.out (t292 : Int) true) | ((with_reducible refine gate_store (t := 4) (p := 42) rfl ?_); refine store_event (t := 4) (p := 42) (v := ?vo_w38) (w1 := (w35.setCell ⟨go33, (t292 : Int).toNat, none⟩ (.bool true))) ?hg ?ho ?hn ?hr ?_; (case ho => rfl); (case hg => rfl); (case hn => rfl); (case hr => first | (go_simp; done) | (go_simp; rfl)); intro w38 hw; have hg : w35.grownBy w38 (some go33) := (by rw [hw]; exact HP37.2); have hp_ : Kd.R Kd.bool 4 w38 w.heap.size (fun _ => True) (.slice (some ⟨go33, 0, none⟩) y305.length co33) y308 := (by rw [hw, Ny308.out]; exact HP37.1); clear HP37; have n0_ := Aside0.mk (Kd.R_over' (v := (.slice (some ⟨go33, 0, none⟩) y305.length co33)) (nr_ HO_5.out) (Kd.R_typed HO307.out) (by decide) hg); have n1_ := Aside0.mk (Kd.R_over' (v := (.slice (some ⟨go33, 0, none⟩) y305.length co33)) (nr_ HO_294001.out) (Kd.R_typed HO307.out) (by decide) hg); have n2_ := Aside0.mk (blk_grown (g := gb293) (o := .cells #[.int .i64 t288, .slice Ao9 t289.length co9] 25 (0, 0)) (nb_ BK293.out) hg (Kd.R_ne HO307.out BK293.out (by decide))); have n3_ := Aside0.mk (hp_); have n4_ := Aside0.mk ((by rw [hw]; exact bS3 (HB.out) GB33.out : Below w.heap.size w w38)); clear HO_5; clear HO_294001; clear BK293; clear HO307; clear HB; have HO_5 := n0_; have HO_294001 := n1_; have BK293 := n2_; have HO307 := n3_; have HB := n4_; clear n0_ n1_ n2_ n3_ n4_; clear hg hw hp_))
          go_loopg [7] kj4 (fun kq v7 w' => ∃ (x6_2 : List Bool) (x7_2 : Int), v7 = .int .i64 x7_2 ∧ Aside0 (laws_FnNearAll.l0 kq t292 t294 x6_2 x7_2 t288 t289 = some r) ∧ Aside0 (kq ≤ kj4) ∧ Aside0 (Kd.R (Kd.int .i64) 3 w' w.heap.size (fun _ => True) v295 t294) ∧ Aside0 (Kd.R Kd.bool 4 w' w.heap.size (fun _ => True) (.slice (some ⟨go33, 0, none⟩) y305.length co33) x6_2) ∧ Aside0 (Kd.R k33 33 w' w.heap.size (fun _ => True) (.slice Ao9 t289.length co9) t289) ∧ Aside0 (w'.heap[gb293]? = some (.cells #[.int .i64 t288, (.slice Ao9 t289.length co9)] 25 (0, 0))) ∧ Aside0 (Below w.heap.size w w'))
          case atStart => exact ⟨(y308), (0), ns_, H', ⟨Nat.le_refl _⟩, ⟨by (with_reducible repeat (first | apply rA3 | apply rN3 | apply rD3)); exact HO_5.out⟩, ⟨by (with_reducible repeat (first | apply rA3 | apply rN3 | apply rD3)); exact HO307.out⟩, ⟨by (with_reducible repeat (first | apply rA3 | apply rN3 | apply rD3)); exact HO_294001.out⟩, ⟨by (with_reducible repeat (first | refine bN3 ?_ _ | refine bD3 ?_ | refine bA3 ?_ _)); exact BK293.out⟩, ⟨by repeat (first | (with_reducible first | exact HB.out | apply below_alloc | apply eN3 | apply eD3 | refine bS3 ?_ GE293.out) | exact HB.out)⟩⟩
          case round =>
           clear H'
           try clear c1
           try clear c2
           try clear c2b0
           try clear c2b1
           try clear p2
           try clear c3
           try clear p3
           try clear q3
           try clear hx3
           try clear hf3
           try clear c13
           try clear c14
           try clear c15
           try clear c16
           try clear c22
           try clear c29
           try clear c29b0
           try clear c29b1
           try clear c30
           try clear c30b0
           try clear c30b1
           try clear c31
           try clear c31b0
           try clear c32
           try clear c32b0
           try clear p33
           try clear q33
           try clear hx33
           try clear hf33
           try clear hcz14_0
           try clear hcz14_1
           try clear hcz18_0
           try clear hcz18_1
           try clear hcz25_0
           try clear hcz25_1
           try clear hcz34_0
           try clear hcz34_1
           try clear hcz8_0
           try clear hcz8_1
           try clear hfz14_0
           try clear hfz14_1
           try clear hfz18_0
           try clear hfz18_1
           try clear hfz25_0
           try clear hfz25_1
           try clear hfz34_0
           try clear hfz34_1
           try clear hfz8_0
           try clear hfz8_1
           try clear hx33_0
           try clear p2
           try clear p33
           try clear q33
           obtain ⟨x6_2, x7_2, rfl, HA, HK2, HO_5, HO_6, HO_294001, BK293, HB⟩ := hrel
           have hl6_2 := (rR3 HO_6.out).1
           rw [hl6_2] at HO_6
           (try simp only [hl6_2])
           (try simp only [hl6_2] at BK293)
           (try simp only [hl6_2] at HO_5)
           (try simp only [hl6_2] at HO_294001)
           cases gk with
           | zero => exact absurd HA.out (by simp [laws_FnNearAll.l0])
           | succ k2 =>
            have H := HA.out
            clear HA
            simp only [laws_FnNearAll.l0] at H
            by_cases c39 : x7_2 < (t289.length : Int)
            ·rw [if_pos c39] at H
             have c39b0 : decide (x7_2 < (t289.length : Int)) = true := decide_eq_true c39
             clear c39
             by_cases c40 : 0 ≤ x7_2
             ·rw [if_pos c40] at H
              have c40b0 : decide (0 ≤ x7_2) = true := decide_eq_true c40
              clear c40
              by_cases c41 : 0 ≤ ((rd_T33 t289 x7_2).f0)
              ·rw [if_pos c41] at H
               have c41b0 : decide (0 ≤ ((rd_T33 t289 x7_2).f0)) = true := decide_eq_true c41
               clear c41
               by_cases c42 : ((rd_T33 t289 x7_2).f0) < (t294.length : Int)
               ·rw [if_pos c42] at H
                have c42b0 : decide (((rd_T33 t289 x7_2).f0) < (t294.length : Int)) = true := decide_eq_true c42
                clear c42
                by_cases c43 : (rd t294 ((rd_T33 t289 x7_2).f0)) < 99999
                ·rw [if_pos c43] at H
                 have c43b0 : decide ((rd t294 ((rd_T33 t289 x7_2).f0)) < 99999) = true := decide_eq_true c43
                 clear c43
                 by_cases c44 : 0 ≤ ((rd_T33 t289 x7_2).f1)
                 ·rw [if_pos c44] at H
                  have c44b0 : decide (0 ≤ ((rd_T33 t289 x7_2).f1)) = true := decide_eq_true c44
                  clear c44
                  by_cases c45 : ((rd_T33 t289 x7_2).f1) < (t294.length : Int)
                  ·rw [if_pos c45] at H
                   have c45b0 : decide (((rd_T33 t289 x7_2).f1) < (t294.length : Int)) = true := decide_eq_true c45
                   clear c45
                   by_cases c46 : (rd t294 ((rd_T33 t289 x7_2).f1)) > (wrap64 ((rd t294 ((rd_T33 t289 x7_2).f0)) + ((rd_T33 t289 x7_2).f2)))
                   ·rw [if_pos c46] at H
                    have c46b0 : decide ((wrap64 ((rd t294 ((rd_T33 t289 x7_2).f0)) + ((rd_T33 t289 x7_2).f2))) < (rd t294 ((rd_T33 t289 x7_2).f1))) = true := decide_eq_true c46
                    clear c46
                    obtain rfl := Option.some.inj H
                    have hcz47_0 : wr.cell? ⟨gb293, 0, none⟩ = some (.int .i64 t288) := (bC3 BK293.out 0).trans rfl
                    have hcz47_1 : wr.cell? ⟨gb293, 1, none⟩ = some (.slice Ao9 t289.length co9) := (bC3 BK293.out 1).trans rfl
                    have hfz47_0 := blk_frozen BK293.out 0
                    have hfz47_1 := blk_frozen BK293.out 1
                    have p309 : 0 ≤ (x7_2 : Int) := of_decide_eq_true nx_
                    have q309 : x7_2 < (t289.length : Int) := of_decide_eq_true nx_
                    obtain ⟨ad309, e309, hx309_0, hx309_1, hx309_2, hx309_3, hx309_4⟩ := at_T33 (rR3 HO_294001.out).2.2 x7_2 p309 q309
                    cases e309
                    replace p309 := eq_true p309
                    replace q309 := eq_true q309
                    try go_wp2_with (first | ((with_reducible refine gate_dst (N := 8) rfl ?_); (try (refine gate_guard (by rfl) ?_; dsimp only)); refine box_event ?hg (N := 8) ?hd (cs := #[.int .i64 0, .int .i64 0, .int .i64 0, .int .i64 0, .int .i64 0]) (t := 33) ?hr ?_; (case hd => rfl); (case hg => rfl); (case hr => first | (go_simp; done) | (go_simp; rfl)); intro gb310 hg w48 hbox hb; have n0_ := Aside0.mk (Kd.R_below (nr_ HO_5.out) hb); have n1_ := Aside0.mk (Kd.R_below (nr_ HO_6.out) hb); have n2_ := Aside0.mk (Kd.R_below (Kd.R_elderB (nr_ HO_294001.out) gb310 (Nat.le_of_eq hg.symm)) hb); have n3_ := Aside0.mk (blk_below (g := gb293) (o := .cells #[.int .i64 t288, .slice (some ad309) t289.length co9] 25 (0, 0)) (nb_ BK293.out) hb); have n4_ := Aside0.mk (below_step (ne_ HB.out) hb); have n5_ := Aside0.mk (hbox); have n6_ := Aside0.mk ((by rw [hg]; exact (below_size (ne_ HB.out)) : w.heap.size ≤ gb310)); have n7_ := Aside0.mk ((by rw [hg]; exact (below_size (ne_ HB.out)) : w.heap.size ≤ gb310)); have n8_ := Aside0.mk ((by rw [hg]; exact Nat.ne_of_lt (blk_lt (g := gb293) (o := .cells #[.int .i64 t288, .slice (some ad309) t289.length co9] 25 (0, 0)) (nb_ BK293.out)) : gb293 ≠ gb310)); have n9_ := Aside0.mk ((by rw [hg]; exact Nat.ne_of_gt (blk_lt (g := gb293) (o := .cells #[.int .i64 t288, .slice (some ad309) t289.length co9] 25 (0, 0)) (nb_ BK293.out)) : gb310 ≠ gb293)); clear HO_5; clear HO_6; clear HO_294001; clear BK293; clear HB; have HO_5 := n0_; have HO_6 := n1_; have HO_294001 := n2_; have BK293 := n3_; have HB := n4_; have BK310 := n5_; have GW310 := n6_; have GE310 := n7_; have NB293_310 := n8_; have NB310_293 := n9_; clear n0_ n1_ n2_ n3_ n4_ n5_ n6_ n7_ n8_ n9_; clear hb hbox hg; have hnb49 := NB310_293.out; have hnc49 := NB293_310.out; have hcz50_0 : w48.cell? ⟨gb310, 0, none⟩ = some (.int .i64 0) := (bC3 BK310.out 0).trans rfl; have hcz50_1 : w48.cell? ⟨gb310, 1, none⟩ = some (.int .i64 0) := (bC3 BK310.out 1).trans rfl; have hcz50_2 : w48.cell? ⟨gb310, 2, none⟩ = some (.int .i64 0) := (bC3 BK310.out 2).trans rfl; have hcz50_3 : w48.cell? ⟨gb310, 3, none⟩ = some (.int .i64 0) := (bC3 BK310.out 3).trans rfl; have hcz50_4 : w48.cell? ⟨gb310, 4, none⟩ = some (.int .i64 0) := (bC3 BK310.out 4).trans rfl; have hfz50_0 := blk_frozen BK310.out 0; have hfz50_1 := blk_frozen BK310.out 1; have hfz50_2 := blk_frozen BK310.out 2; have hfz50_3 := blk_frozen BK310.out 3; have hfz50_4 := blk_frozen BK310.out 4))
                    have n0_ : Aside0 (Kd.R (Kd.int .i64) 3 (((((w48.setCell ⟨gb310, 0, none⟩ (.int .i64 ((rd_T33 t289 x7_2).f0))).setCell ⟨gb310, 1, none⟩ (.int .i64 ((rd_T33 t289 x7_2).f1))).setCell ⟨gb310, 2, none⟩ (.int .i64 ((rd_T33 t289 x7_2).f2))).setCell ⟨gb310, 3, none⟩ (.int .i64 ((rd_T33 t289 x7_2).f3))).setCell ⟨gb310, 4, none⟩ (.int .i64 ((rd_T33 t289 x7_2).f4))) w.heap.size (fun _ => True) v295 t294) := ⟨by (with_reducible repeat (first | apply rA3 | apply rN3 | apply rD3)); exact Kd.R_mono (rF3 (p := ⟨gb310, 4, none⟩) (rF3 (p := ⟨gb310, 3, none⟩) (rF3 (p := ⟨gb310, 2, none⟩) (rF3 (p := ⟨gb310, 1, none⟩) (rF3 (p := ⟨gb310, 0, none⟩) (Kd.R_types HO_5.out BK310.out (by decide)) (fun _ hk => hk.2) (.int .i64 ((rd_T33 t289 x7_2).f0))) (fun _ hk => hk.2) (.int .i64 ((rd_T33 t289 x7_2).f1))) (fun _ hk => hk.2) (.int .i64 ((rd_T33 t289 x7_2).f2))) (fun _ hk => hk.2) (.int .i64 ((rd_T33 t289 x7_2).f3))) (fun _ hk => hk.2) (.int .i64 ((rd_T33 t289 x7_2).f4))) (fun _ hk => trivial)⟩
                    have n1_ : Aside0 (Kd.R Kd.bool 4 (((((w48.setCell ⟨gb310, 0, none⟩ (.int .i64 ((rd_T33 t289 x7_2).f0))).setCell ⟨gb310, 1, none⟩ (.int .i64 ((rd_T33 t289 x7_2).f1))).setCell ⟨gb310, 2, none⟩ (.int .i64 ((rd_T33 t289 x7_2).f2))).setCell ⟨gb310, 3, none⟩ (.int .i64 ((rd_T33 t289 x7_2).f3))).setCell ⟨gb310, 4, none⟩ (.int .i64 ((rd_T33 t289 x7_2).f4))) w.heap.size (fun _ => True) (.slice (some ⟨go33, 0, none⟩) x6_2.length co33) x6_2) := ⟨by (with_reducible repeat (first | apply rA3 | apply rN3 | apply rD3)); exact Kd.R_mono (rF3 (p := ⟨gb310, 4, none⟩) (rF3 (p := ⟨gb310, 3, none⟩) (rF3 (p := ⟨gb310, 2, none⟩) (rF3 (p := ⟨gb310, 1, none⟩) (rF3 (p := ⟨gb310, 0, none⟩) (Kd.R_types HO_6.out BK310.out (by decide)) (fun _ hk => hk.2) (.int .i64 ((rd_T33 t289 x7_2).f0))) (fun _ hk => hk.2) (.int .i64 ((rd_T33 t289 x7_2).f1))) (fun _ hk => hk.2) (.int .i64 ((rd_T33 t289 x7_2).f2))) (fun _ hk => hk.2) (.int .i64 ((rd_T33 t289 x7_2).f3))) (fun _ hk => hk.2) (.int .i64 ((rd_T33 t289 x7_2).f4))) (fun _ hk => trivial)⟩
                    have n2_ : Aside0 (Kd.R k33 33 (((((w48.setCell ⟨gb310, 0, none⟩ (.int .i64 ((rd_T33 t289 x7_2).f0))).setCell ⟨gb310, 1, none⟩ (.int .i64 ((rd_T33 t289 x7_2).f1))).setCell ⟨gb310, 2, none⟩ (.int .i64 ((rd_T33 t289 x7_2).f2))).setCell ⟨gb310, 3, none⟩ (.int .i64 ((rd_T33 t289 x7_2).f3))).setCell ⟨gb310, 4, none⟩ (.int .i64 ((rd_T33 t289 x7_2).f4))) w.heap.size (fun k_ => k_ ≠ gb310) (.slice (some ad309) t289.length co9) t289) := ⟨by (with_reducible repeat (first | apply rA3 | apply rN3 | apply rD3)); exact Kd.R_mono (rF3 (p := ⟨gb310, 4, none⟩) (rF3 (p := ⟨gb310, 3, none⟩) (rF3 (p := ⟨gb310, 2, none⟩) (rF3 (p := ⟨gb310, 1, none⟩) (rF3 (p := ⟨gb310, 0, none⟩) (Kd.R_mono HO_294001.out (fun k_ hk => (⟨hk, hk.2⟩ : _ ∧ k_ ≠ gb310))) (fun _ hk => hk.2) (.int .i64 ((rd_T33 t289 x7_2).f0))) (fun _ hk => hk.2) (.int .i64 ((rd_T33 t289 x7_2).f1))) (fun _ hk => hk.2) (.int .i64 ((rd_T33 t289 x7_2).f2))) (fun _ hk => hk.2) (.int .i64 ((rd_T33 t289 x7_2).f3))) (fun _ hk => hk.2) (.int .i64 ((rd_T33 t289 x7_2).f4))) (fun _ hk => by first | exact hk.1.2 | trivial | simp_all)⟩
                    have n3_ : Aside0 ((((((w48.setCell ⟨gb310, 0, none⟩ (.int .i64 ((rd_T33 t289 x7_2).f0))).setCell ⟨gb310, 1, none⟩ (.int .i64 ((rd_T33 t289 x7_2).f1))).setCell ⟨gb310, 2, none⟩ (.int .i64 ((rd_T33 t289 x7_2).f2))).setCell ⟨gb310, 3, none⟩ (.int .i64 ((rd_T33 t289 x7_2).f3))).setCell ⟨gb310, 4, none⟩ (.int .i64 ((rd_T33 t289 x7_2).f4))).heap[gb293]? = some (.cells #[.int .i64 t288, .slice (some ad309) t289.length co9] 25 (0, 0))) := ⟨by (with_reducible repeat (first | refine bN3 ?_ _ | refine bD3 ?_ | refine bA3 ?_ _)); refine blk_far ?_ NB293_310.out _; (with_reducible repeat (first | refine bN3 ?_ _ | refine bD3 ?_ | refine bA3 ?_ _)); refine blk_far ?_ NB293_310.out _; (with_reducible repeat (first | refine bN3 ?_ _ | refine bD3 ?_ | refine bA3 ?_ _)); refine blk_far ?_ NB293_310.out _; (with_reducible repeat (first | refine bN3 ?_ _ | refine bD3 ?_ | refine bA3 ?_ _)); refine blk_far ?_ NB293_310.out _; (with_reducible repeat (first | refine bN3 ?_ _ | refine bD3 ?_ | refine bA3 ?_ _)); refine blk_far ?_ NB293_310.out _; (with_reducible repeat (first | refine bN3 ?_ _ | refine bD3 ?_ | refine bA3 ?_ _)); exact BK293.out⟩
                    have n4_ : Aside0 ((((((w48.setCell ⟨gb310, 0, none⟩ (.int .i64 ((rd_T33 t289 x7_2).f0))).setCell ⟨gb310, 1, none⟩ (.int .i64 ((rd_T33 t289 x7_2).f1))).setCell ⟨gb310, 2, none⟩ (.int .i64 ((rd_T33 t289 x7_2).f2))).setCell ⟨gb310, 3, none⟩ (.int .i64 ((rd_T33 t289 x7_2).f3))).setCell ⟨gb310, 4, none⟩ (.int .i64 ((rd_T33 t289 x7_2).f4))).heap[gb310]? = some (.cells #[.int .i64 ((rd_T33 t289 x7_2).f0), .int .i64 ((rd_T33 t289 x7_2).f1), .int .i64 ((rd_T33 t289 x7_2).f2), .int .i64 ((rd_T33 t289 x7_2).f3), .int .i64 ((rd_T33 t289 x7_2).f4)] 33 (0, 0))) := ⟨by (with_reducible repeat (first | refine bN3 ?_ _ | refine bD3 ?_ | refine bA3 ?_ _)); refine blk_put (cs := #[.int .i64 ((rd_T33 t289 x7_2).f0), .int .i64 ((rd_T33 t289 x7_2).f1), .int .i64 ((rd_T33 t289 x7_2).f2), .int .i64 ((rd_T33 t289 x7_2).f3), .int .i64 0]) ?_ 4 _ rfl; (with_reducible repeat (first | refine bN3 ?_ _ | refine bD3 ?_ | refine bA3 ?_ _)); refine blk_put (cs := #[.int .i64 ((rd_T33 t289 x7_2).f0), .int .i64 ((rd_T33 t289 x7_2).f1), .int .i64 ((rd_T33 t289 x7_2).f2), .int .i64 0, .int .i64 0]) ?_ 3 _ rfl; (with_reducible repeat (first | refine bN3 ?_ _ | refine bD3 ?_ | refine bA3 ?_ _)); refine blk_put (cs := #[.int .i64 ((rd_T33 t289 x7_2).f0), .int .i64 ((rd_T33 t289 x7_2).f1), .int .i64 0, .int .i64 0, .int .i64 0]) ?_ 2 _ rfl; (with_reducible repeat (first | refine bN3 ?_ _ | refine bD3 ?_ | refine bA3 ?_ _)); refine blk_put (cs := #[.int .i64 ((rd_T33 t289 x7_2).f0), .int .i64 0, .int .i64 0, .int .i64 0, .int .i64 0]) ?_ 1 _ rfl; (with_reducible repeat (first | refine bN3 ?_ _ | refine bD3 ?_ | refine bA3 ?_ _)); refine blk_put (cs := #[.int .i64 0, .int .i64 0, .int .i64 0, .int .i64 0, .int .i64 0]) ?_ 0 _ rfl; (with_reducible repeat (first | refine bN3 ?_ _ | refine bD3 ?_ | refine bA3 ?_ _)); exact BK310.out⟩
                    have n5_ : Aside0 (Below w.heap.size w (((((w48.setCell ⟨gb310, 0, none⟩ (.int .i64 ((rd_T33 t289 x7_2).f0))).setCell ⟨gb310, 1, none⟩ (.int .i64 ((rd_T33 t289 x7_2).f1))).setCell ⟨gb310, 2, none⟩ (.int .i64 ((rd_T33 t289 x7_2).f2))).setCell ⟨gb310, 3, none⟩ (.int .i64 ((rd_T33 t289 x7_2).f3))).setCell ⟨gb310, 4, none⟩ (.int .i64 ((rd_T33 t289 x7_2).f4)))) := ⟨by repeat (first | (with_reducible first | exact HB.out | apply below_alloc | apply eN3 | apply eD3 | refine bS3 ?_ GE293.out | refine bS3 ?_ GE310.out) | exact HB.out)⟩
                    (try clear HO_5)
                    (try clear HO_6)
                    (try clear HO_294001)
                    (try clear BK293)
                    (try clear BK310)
                    (try clear HB)
                    generalize (((((w48.setCell ⟨gb310, 0, none⟩ (.int .i64 ((rd_T33 t289 x7_2).f0))).setCell ⟨gb310, 1, none⟩ (.int .i64 ((rd_T33 t289 x7_2).f1))).setCell ⟨gb310, 2, none⟩ (.int .i64 ((rd_T33 t289 x7_2).f2))).setCell ⟨gb310, 3, none⟩ (.int .i64 ((rd_T33 t289 x7_2).f3))).setCell ⟨gb310, 4, none⟩ (.int .i64 ((rd_T33 t289 x7_2).f4))) = w51 at n0_ n1_ n2_ n3_ n4_ n5_ ⊢
                    have HO_5 := n0_
                    have HO_6 := n1_
                    have HO_294001 := n2_
                    have BK293 := n3_
                    have BK310 := n4_
                    have HB := n5_
                    clear n0_ n1_ n2_ n3_ n4_ n5_
                    replace HO_5 := Aside0.mk (rD3 HO_5.out)
                    replace HO_6 := Aside0.mk (rD3 HO_6.out)
                    replace HO_294001 := Aside0.mk (rD3 HO_294001.out)
                    replace BK293 := Aside0.mk (bD3 BK293.out)
                    replace BK310 := Aside0.mk (bD3 BK310.out)
                    replace HB := Aside0.mk (eD3 HB.out)
                    obtain ⟨Ao53, co53, eo53⟩ := Kd.R_slice HO_5.out
                    (first | subst eo53 | (injection eo53 with f1_ f2_ f3_; have f4_ := f1_.symm; have f5_ := f3_.symm; clear f1_ f2_ f3_; subst f4_; subst f5_))
                    have p311 : 0 ≤ (((rd_T33 t289 x7_2).f0) : Int) := of_decide_eq_true nx_
                    have q311 : ((rd_T33 t289 x7_2).f0) < (t294.length : Int) := of_decide_eq_true nx_
                    obtain ⟨ad311, e311, hx311_0⟩ := Kd.at_int (rR3 HO_5.out).2.2 ((rd_T33 t289 x7_2).f0) p311 q311
                    cases e311
                    replace p311 := eq_true p311
                    replace q311 := eq_true q311
                    have p312 : 0 ≤ (((rd_T33 t289 x7_2).f1) : Int) := of_decide_eq_true nx_
                    have q312 : ((rd_T33 t289 x7_2).f1) < (t294.length : Int) := of_decide_eq_true nx_
                    obtain ⟨ad312, e312, hx312_0⟩ := Kd.at_int (rR3 HO_5.out).2.2 ((rd_T33 t289 x7_2).f1) p312 q312
                    obtain rfl : ad311 = ad312 := (by injection e312)
                    replace p312 := eq_true p312
                    replace q312 := eq_true q312
                    have p313 : 0 ≤ (((rd_T33 t289 x7_2).f0) : Int) := of_decide_eq_true nx_
                    have q313 : ((rd_T33 t289 x7_2).f0) < (t294.length : Int) := of_decide_eq_true nx_
                    obtain ⟨ad313, e313, hx313_0⟩ := Kd.at_int (rR3 HO_5.out).2.2 ((rd_T33 t289 x7_2).f0) p313 q313
                    obtain rfl : ad311 = ad313 := (by injection e313)
                    replace p313 := eq_true p313
                    replace q313 := eq_true q313
                    refine start_ (n := 22) (S := fun w' => w'.cell? ⟨gb310, 0, none⟩ = some (.int .i64 ((rd_T33 t289 x7_2).f0)) ∧ w'.cell? ⟨gb310, 1, none⟩ = some (.int .i64 ((rd_T33 t289 x7_2).f1)) ∧ w'.cell? ⟨gb310, 2, none⟩ = some (.int .i64 ((rd_T33 t289 x7_2).f2)) ∧ w'.cell? ⟨gb310, 3, none⟩ = some (.int .i64 ((rd_T33 t289 x7_2).f3)) ∧ w'.cell? ⟨gb310, 4, none⟩ = some (.int .i64 ((rd_T33 t289 x7_2).f4)) ∧ w'.cell? (ad311.add (((rd_T33 t289 x7_2).f0)).toNat) = some (.int .i64 (rd t294 ((rd_T33 t289 x7_2).f0))) ∧ w'.cell? (ad311.add (((rd_T33 t289 x7_2).f1)).toNat) = some (.int .i64 (rd t294 ((rd_T33 t289 x7_2).f1))) ∧ w'.cell? (ad311.add (((rd_T33 t289 x7_2).f0)).toNat) = some (.int .i64 (rd t294 ((rd_T33 t289 x7_2).f0)))) (ds := []) z3_0 (by kernel_rfl) rfl rfl ⟨(bC3 BK310.out 0).trans rfl, (bC3 BK310.out 1).trans rfl, (bC3 BK310.out 2).trans rfl, (bC3 BK310.out 3).trans rfl, (bC3 BK310.out 4).trans rfl, hx311_0, hx312_0, hx313_0⟩ (fun hHeld => ?_); refine with_tabW laws_FnNearAll.tab13 laws_FnNearAll.bits13 (fun HT_ HW_ => ?_)
                    generalize w51.drew = w52 at HO_5 HO_6 HO_294001 BK293 BK310 HB hx311_0 hx312_0 hx313_0 hHeld ⊢
                    refine pu_ 0 55 z3_1 HT_.out ?_
                    refine pu_ 1 56 z3_2 HT_.out ?_
                    refine tk_ 2 57 z3_3 HT_.out HW_.out hHeld ?_
                    refine pu_ 3 58 z3_4 HT_.out ?_
                    refine tk_ 4 59 z3_5 HT_.out HW_.out hHeld ?_
                    refine pu_ 5 60 z3_6 HT_.out ?_
                    refine pu_ 6 61 z3_7 HT_.out ?_
                    refine pu_ 7 62 z3_8 HT_.out ?_
                    refine pu_ 8 63 z3_9 HT_.out ?_
                    refine pu_ 12 67 z3_10 HT_.out ?_
                    refine pu_ 13 68 z3_11 HT_.out ?_
                    refine pu_ 17 72 z3_12 HT_.out ?_
                    refine tk_ 9 64 z3_13 HT_.out HW_.out hHeld ?_
                    refine pu_ 10 65 z3_14 HT_.out ?_
                    refine tk_ 11 66 z3_15 HT_.out HW_.out hHeld ?_
                    refine tk_ 14 69 z3_16 HT_.out HW_.out hHeld ?_
                    refine pu_ 15 70 z3_17 HT_.out ?_
                    refine tk_ 16 71 z3_18 HT_.out HW_.out hHeld ?_
                    refine tk_ 18 73 z3_19 HT_.out HW_.out hHeld ?_
                    refine pu_ 19 74 z3_20 HT_.out ?_
                    refine pu_ 20 75 z3_21 HT_.out ?_
                    refine pu_ 21 76 z3_22 HT_.out ?_
                    refine done_ (done_of HT_.out (by kernel_rfl)) ?_
                    try go_wp2
                    go_ret
                    exact ⟨by first | rfl | (simp [errW_none, errW_some] <;> rfl) | (simp [*, errW_none, errW_some] <;> rfl), by repeat (first | (with_reducible first | exact HB.out | apply below_alloc | apply eN3 | apply eD3 | refine bS3 ?_ GE293.out | refine bS3 ?_ GE310.out) | exact HB.out)⟩
                   ·rw [if_neg c46] at H
                    have c46b0 : decide ((wrap64 ((rd t294 ((rd_T33 t289 x7_2).f0)) + ((rd_T33 t289 x7_2).f2))) < (rd t294 ((rd_T33 t289 x7_2).f1))) = false := decide_eq_false c46
                    clear c46
                    by_cases c54 : ((rd_T33 t289 x7_2).f1) < (x6_2.length : Int)
                    ·rw [if_pos c54] at H
                     have c54b0 : decide (((rd_T33 t289 x7_2).f1) < (x6_2.length : Int)) = true := decide_eq_true c54
                     clear c54
                     obtain ⟨bq55, hbq55⟩ : ∃ b_ : Bool, b_ = (rdOf false x6_2 ((rd_T33 t289 x7_2).f1)) := ⟨_, rfl⟩
                     replace H : (if bq55 = true then (laws_FnNearAll.l0 k2 t292 t294 (x6_2.set (((rd_T33 t289 x7_2).f1) : Int).toNat true) (wrap64 (x7_2 + 1)) t288 t289) else (laws_FnNearAll.l0 k2 t292 t294 (x6_2.set (((rd_T33 t289 x7_2).f1) : Int).toNat ((rd t294 ((rd_T33 t289 x7_2).f1)) == (wrap64 ((rd t294 ((rd_T33 t289 x7_2).f0)) + ((rd_T33 t289 x7_2).f2))))) (wrap64 (x7_2 + 1)) t288 t289)) = some r := by rw [← hbq55] at H; exact H
                     have Nbq55 := Aside0.mk hbq55
                     clear hbq55
                     by_cases c56 : bq55 = true
                     ·subst c56
                      have H1 : (laws_FnNearAll.l0 k2 t292 t294 (x6_2.set (((rd_T33 t289 x7_2).f1) : Int).toNat true) (wrap64 (x7_2 + 1)) t288 t289) = some r := by rw [if_pos rfl] at H; exact H
                      clear H
                      have H := H1
                      clear H1
                      obtain ⟨y315, hy315⟩ : ∃ y_ : List Bool, y_ = (x6_2.set (((rd_T33 t289 x7_2).f1) : Int).toNat true) := ⟨_, rfl⟩
                      replace H : (laws_FnNearAll.l0 k2 t292 t294 y315 (wrap64 (x7_2 + 1)) t288 t289) = some r := by first | (rw [hy315]; with_reducible exact H) | (have H2_ := (Option.bind_some _ _).symm.trans H; rw [hy315]; with_reducible exact H2_) | (have H2_ := (Option.bind_some _ _).symm.trans H; with_reducible exact H2_) | with_reducible exact H | (rw [hy315]; exact H) | exact H
                      have Ny315 := Aside0.mk hy315
                      clear hy315
                      have H' := Aside0.mk H
                      clear H
                      have hcz58_0 : wr.cell? ⟨gb293, 0, none⟩ = some (.int .i64 t288) := (bC3 BK293.out 0).trans rfl
                      have hcz58_1 : wr.cell? ⟨gb293, 1, none⟩ = some (.slice Ao9 t289.length co9) := (bC3 BK293.out 1).trans rfl
                      have hfz58_0 := blk_frozen BK293.out 0
                      have hfz58_1 := blk_frozen BK293.out 1
                      have p309 : 0 ≤ (x7_2 : Int) := of_decide_eq_true nx_
                      have q309 : x7_2 < (t289.length : Int) := of_decide_eq_true nx_
                      obtain ⟨ad309, e309, hx309_0, hx309_1, hx309_2, hx309_3, hx309_4⟩ := at_T33 (rR3 HO_294001.out).2.2 x7_2 p309 q309
                      cases e309
                      replace p309 := eq_true p309
                      replace q309 := eq_true q309
                      try go_wp2_with (first | ((with_reducible refine gate_dst (N := 8) rfl ?_); (try (refine gate_guard (by rfl) ?_; dsimp only)); refine box_event ?hg (N := 8) ?hd (cs := #[.int .i64 0, .int .i64 0, .int .i64 0, .int .i64 0, .int .i64 0]) (t := 33) ?hr ?_; (case hd => rfl); (case hg => rfl); (case hr => first | (go_simp; done) | (go_simp; rfl)); intro gb310 hg w59 hbox hb; have n0_ := Aside0.mk (Kd.R_below (nr_ HO_5.out) hb); have n1_ := Aside0.mk (Kd.R_below (nr_ HO_6.out) hb); have n2_ := Aside0.mk (Kd.R_below (Kd.R_elderB (nr_ HO_294001.out) gb310 (Nat.le_of_eq hg.symm)) hb); have n3_ := Aside0.mk (blk_below (g := gb293) (o := .cells #[.int .i64 t288, .slice (some ad309) t289.length co9] 25 (0, 0)) (nb_ BK293.out) hb); have n4_ := Aside0.mk (below_step (ne_ HB.out) hb); have n5_ := Aside0.mk (hbox); have n6_ := Aside0.mk ((by rw [hg]; exact (below_size (ne_ HB.out)) : w.heap.size ≤ gb310)); have n7_ := Aside0.mk ((by rw [hg]; exact (below_size (ne_ HB.out)) : w.heap.size ≤ gb310)); have n8_ := Aside0.mk ((by rw [hg]; exact Nat.ne_of_lt (blk_lt (g := gb293) (o := .cells #[.int .i64 t288, .slice (some ad309) t289.length co9] 25 (0, 0)) (nb_ BK293.out)) : gb293 ≠ gb310)); have n9_ := Aside0.mk ((by rw [hg]; exact Nat.ne_of_gt (blk_lt (g := gb293) (o := .cells #[.int .i64 t288, .slice (some ad309) t289.length co9] 25 (0, 0)) (nb_ BK293.out)) : gb310 ≠ gb293)); clear HO_5; clear HO_6; clear HO_294001; clear BK293; clear HB; have HO_5 := n0_; have HO_6 := n1_; have HO_294001 := n2_; have BK293 := n3_; have HB := n4_; have BK310 := n5_; have GW310 := n6_; have GE310 := n7_; have NB293_310 := n8_; have NB310_293 := n9_; clear n0_ n1_ n2_ n3_ n4_ n5_ n6_ n7_ n8_ n9_; clear hb hbox hg; have hnb60 := NB310_293.out; have hnc60 := NB293_310.out; have hcz61_0 : w59.cell? ⟨gb310, 0, none⟩ = some (.int .i64 0) := (bC3 BK310.out 0).trans rfl; have hcz61_1 : w59.cell? ⟨gb310, 1, none⟩ = some (.int .i64 0) := (bC3 BK310.out 1).trans rfl; have hcz61_2 : w59.cell? ⟨gb310, 2, none⟩ = some (.int .i64 0) := (bC3 BK310.out 2).trans rfl; have hcz61_3 : w59.cell? ⟨gb310, 3, none⟩ = some (.int .i64 0) := (bC3 BK310.out 3).trans rfl; have hcz61_4 : w59.cell? ⟨gb310, 4, none⟩ = some (.int .i64 0) := (bC3 BK310.out 4).trans rfl; have hfz61_0 := blk_frozen BK310.out 0; have hfz61_1 := blk_frozen BK310.out 1; have hfz61_2 := blk_frozen BK310.out 2; have hfz61_3 := blk_frozen BK310.out 3; have hfz61_4 := blk_frozen BK310.out 4))
                      have n0_ : Aside0 (Kd.R (Kd.int .i64) 3 (((((w59.setCell ⟨gb310, 0, none⟩ (.int .i64 ((rd_T33 t289 x7_2).f0))).setCell ⟨gb310, 1, none⟩ (.int .i64 ((rd_T33 t289 x7_2).f1))).setCell ⟨gb310, 2, none⟩ (.int .i64 ((rd_T33 t289 x7_2).f2))).setCell ⟨gb310, 3, none⟩ (.int .i64 ((rd_T33 t289 x7_2).f3))).setCell ⟨gb310, 4, none⟩ (.int .i64 ((rd_T33 t289 x7_2).f4))) w.heap.size (fun _ => True) v295 t294) := ⟨by (with_reducible repeat (first | apply rA3 | apply rN3 | apply rD3)); exact Kd.R_mono (rF3 (p := ⟨gb310, 4, none⟩) (rF3 (p := ⟨gb310, 3, none⟩) (rF3 (p := ⟨gb310, 2, none⟩) (rF3 (p := ⟨gb310, 1, none⟩) (rF3 (p := ⟨gb310, 0, none⟩) (Kd.R_types HO_5.out BK310.out (by decide)) (fun _ hk => hk.2) (.int .i64 ((rd_T33 t289 x7_2).f0))) (fun _ hk => hk.2) (.int .i64 ((rd_T33 t289 x7_2).f1))) (fun _ hk => hk.2) (.int .i64 ((rd_T33 t289 x7_2).f2))) (fun _ hk => hk.2) (.int .i64 ((rd_T33 t289 x7_2).f3))) (fun _ hk => hk.2) (.int .i64 ((rd_T33 t289 x7_2).f4))) (fun _ hk => trivial)⟩
                      have n1_ : Aside0 (Kd.R Kd.bool 4 (((((w59.setCell ⟨gb310, 0, none⟩ (.int .i64 ((rd_T33 t289 x7_2).f0))).setCell ⟨gb310, 1, none⟩ (.int .i64 ((rd_T33 t289 x7_2).f1))).setCell ⟨gb310, 2, none⟩ (.int .i64 ((rd_T33 t289 x7_2).f2))).setCell ⟨gb310, 3, none⟩ (.int .i64 ((rd_T33 t289 x7_2).f3))).setCell ⟨gb310, 4, none⟩ (.int .i64 ((rd_T33 t289 x7_2).f4))) w.heap.size (fun _ => True) (.slice (some ⟨go33, 0, none⟩) x6_2.length co33) x6_2) := ⟨by (with_reducible repeat (first | apply rA3 | apply rN3 | apply rD3)); exact Kd.R_mono (rF3 (p := ⟨gb310, 4, none⟩) (rF3 (p := ⟨gb310, 3, none⟩) (rF3 (p := ⟨gb310, 2, none⟩) (rF3 (p := ⟨gb310, 1, none⟩) (rF3 (p := ⟨gb310, 0, none⟩) (Kd.R_types HO_6.out BK310.out (by decide)) (fun _ hk => hk.2) (.int .i64 ((rd_T33 t289 x7_2).f0))) (fun _ hk => hk.2) (.int .i64 ((rd_T33 t289 x7_2).f1))) (fun _ hk => hk.2) (.int .i64 ((rd_T33 t289 x7_2).f2))) (fun _ hk => hk.2) (.int .i64 ((rd_T33 t289 x7_2).f3))) (fun _ hk => hk.2) (.int .i64 ((rd_T33 t289 x7_2).f4))) (fun _ hk => trivial)⟩
                      have n2_ : Aside0 (Kd.R k33 33 (((((w59.setCell ⟨gb310, 0, none⟩ (.int .i64 ((rd_T33 t289 x7_2).f0))).setCell ⟨gb310, 1, none⟩ (.int .i64 ((rd_T33 t289 x7_2).f1))).setCell ⟨gb310, 2, none⟩ (.int .i64 ((rd_T33 t289 x7_2).f2))).setCell ⟨gb310, 3, none⟩ (.int .i64 ((rd_T33 t289 x7_2).f3))).setCell ⟨gb310, 4, none⟩ (.int .i64 ((rd_T33 t289 x7_2).f4))) w.heap.size (fun k_ => k_ ≠ gb310) (.slice (some ad309) t289.length co9) t289) := ⟨by (with_reducible repeat (first | apply rA3 | apply rN3 | apply rD3)); exact Kd.R_mono (rF3 (p := ⟨gb310, 4, none⟩) (rF3 (p := ⟨gb310, 3, none⟩) (rF3 (p := ⟨gb310, 2, none⟩) (rF3 (p := ⟨gb310, 1, none⟩) (rF3 (p := ⟨gb310, 0, none⟩) (Kd.R_mono HO_294001.out (fun k_ hk => (⟨hk, hk.2⟩ : _ ∧ k_ ≠ gb310))) (fun _ hk => hk.2) (.int .i64 ((rd_T33 t289 x7_2).f0))) (fun _ hk => hk.2) (.int .i64 ((rd_T33 t289 x7_2).f1))) (fun _ hk => hk.2) (.int .i64 ((rd_T33 t289 x7_2).f2))) (fun _ hk => hk.2) (.int .i64 ((rd_T33 t289 x7_2).f3))) (fun _ hk => hk.2) (.int .i64 ((rd_T33 t289 x7_2).f4))) (fun _ hk => by first | exact hk.1.2 | trivial | simp_all)⟩
                      have n3_ : Aside0 ((((((w59.setCell ⟨gb310, 0, none⟩ (.int .i64 ((rd_T33 t289 x7_2).f0))).setCell ⟨gb310, 1, none⟩ (.int .i64 ((rd_T33 t289 x7_2).f1))).setCell ⟨gb310, 2, none⟩ (.int .i64 ((rd_T33 t289 x7_2).f2))).setCell ⟨gb310, 3, none⟩ (.int .i64 ((rd_T33 t289 x7_2).f3))).setCell ⟨gb310, 4, none⟩ (.int .i64 ((rd_T33 t289 x7_2).f4))).heap[gb293]? = some (.cells #[.int .i64 t288, .slice (some ad309) t289.length co9] 25 (0, 0))) := ⟨by (with_reducible repeat (first | refine bN3 ?_ _ | refine bD3 ?_ | refine bA3 ?_ _)); refine blk_far ?_ NB293_310.out _; (with_reducible repeat (first | refine bN3 ?_ _ | refine bD3 ?_ | refine bA3 ?_ _)); refine blk_far ?_ NB293_310.out _; (with_reducible repeat (first | refine bN3 ?_ _ | refine bD3 ?_ | refine bA3 ?_ _)); refine blk_far ?_ NB293_310.out _; (with_reducible repeat (first | refine bN3 ?_ _ | refine bD3 ?_ | refine bA3 ?_ _)); refine blk_far ?_ NB293_310.out _; (with_reducible repeat (first | refine bN3 ?_ _ | refine bD3 ?_ | refine bA3 ?_ _)); refine blk_far ?_ NB293_310.out _; (with_reducible repeat (first | refine bN3 ?_ _ | refine bD3 ?_ | refine bA3 ?_ _)); exact BK293.out⟩
                      have n4_ : Aside0 ((((((w59.setCell ⟨gb310, 0, none⟩ (.int .i64 ((rd_T33 t289 x7_2).f0))).setCell ⟨gb310, 1, none⟩ (.int .i64 ((rd_T33 t289 x7_2).f1))).setCell ⟨gb310, 2, none⟩ (.int .i64 ((rd_T33 t289 x7_2).f2))).setCell ⟨gb310, 3, none⟩ (.int .i64 ((rd_T33 t289 x7_2).f3))).setCell ⟨gb310, 4, none⟩ (.int .i64 ((rd_T33 t289 x7_2).f4))).heap[gb310]? = some (.cells #[.int .i64 ((rd_T33 t289 x7_2).f0), .int .i64 ((rd_T33 t289 x7_2).f1), .int .i64 ((rd_T33 t289 x7_2).f2), .int .i64 ((rd_T33 t289 x7_2).f3), .int .i64 ((rd_T33 t289 x7_2).f4)] 33 (0, 0))) := ⟨by (with_reducible repeat (first | refine bN3 ?_ _ | refine bD3 ?_ | refine bA3 ?_ _)); refine blk_put (cs := #[.int .i64 ((rd_T33 t289 x7_2).f0), .int .i64 ((rd_T33 t289 x7_2).f1), .int .i64 ((rd_T33 t289 x7_2).f2), .int .i64 ((rd_T33 t289 x7_2).f3), .int .i64 0]) ?_ 4 _ rfl; (with_reducible repeat (first | refine bN3 ?_ _ | refine bD3 ?_ | refine bA3 ?_ _)); refine blk_put (cs := #[.int .i64 ((rd_T33 t289 x7_2).f0), .int .i64 ((rd_T33 t289 x7_2).f1), .int .i64 ((rd_T33 t289 x7_2).f2), .int .i64 0, .int .i64 0]) ?_ 3 _ rfl; (with_reducible repeat (first | refine bN3 ?_ _ | refine bD3 ?_ | refine bA3 ?_ _)); refine blk_put (cs := #[.int .i64 ((rd_T33 t289 x7_2).f0), .int .i64 ((rd_T33 t289 x7_2).f1), .int .i64 0, .int .i64 0, .int .i64 0]) ?_ 2 _ rfl; (with_reducible repeat (first | refine bN3 ?_ _ | refine bD3 ?_ | refine bA3 ?_ _)); refine blk_put (cs := #[.int .i64 ((rd_T33 t289 x7_2).f0), .int .i64 0, .int .i64 0, .int .i64 0, .int .i64 0]) ?_ 1 _ rfl; (with_reducible repeat (first | refine bN3 ?_ _ | refine bD3 ?_ | refine bA3 ?_ _)); refine blk_put (cs := #[.int .i64 0, .int .i64 0, .int .i64 0, .int .i64 0, .int .i64 0]) ?_ 0 _ rfl; (with_reducible repeat (first | refine bN3 ?_ _ | refine bD3 ?_ | refine bA3 ?_ _)); exact BK310.out⟩
                      have n5_ : Aside0 (Below w.heap.size w (((((w59.setCell ⟨gb310, 0, none⟩ (.int .i64 ((rd_T33 t289 x7_2).f0))).setCell ⟨gb310, 1, none⟩ (.int .i64 ((rd_T33 t289 x7_2).f1))).setCell ⟨gb310, 2, none⟩ (.int .i64 ((rd_T33 t289 x7_2).f2))).setCell ⟨gb310, 3, none⟩ (.int .i64 ((rd_T33 t289 x7_2).f3))).setCell ⟨gb310, 4, none⟩ (.int .i64 ((rd_T33 t289 x7_2).f4)))) := ⟨by repeat (first | (with_reducible first | exact HB.out | apply below_alloc | apply eN3 | apply eD3 | refine bS3 ?_ GE293.out | refine bS3 ?_ GE310.out) | exact HB.out)⟩
                      (try clear HO_5)
                      (try clear HO_6)
                      (try clear HO_294001)
                      (try clear BK293)
                      (try clear BK310)
                      (try clear HB)
                      generalize (((((w59.setCell ⟨gb310, 0, none⟩ (.int .i64 ((rd_T33 t289 x7_2).f0))).setCell ⟨gb310, 1, none⟩ (.int .i64 ((rd_T33 t289 x7_2).f1))).setCell ⟨gb310, 2, none⟩ (.int .i64 ((rd_T33 t289 x7_2).f2))).setCell ⟨gb310, 3, none⟩ (.int .i64 ((rd_T33 t289 x7_2).f3))).setCell ⟨gb310, 4, none⟩ (.int .i64 ((rd_T33 t289 x7_2).f4))) = w62 at n0_ n1_ n2_ n3_ n4_ n5_ ⊢
                      have HO_5 := n0_
                      have HO_6 := n1_
                      have HO_294001 := n2_
                      have BK293 := n3_
                      have BK310 := n4_
                      have HB := n5_
                      clear n0_ n1_ n2_ n3_ n4_ n5_
                      replace HO_5 := Aside0.mk (rD3 HO_5.out)
                      replace HO_6 := Aside0.mk (rD3 HO_6.out)
                      replace HO_294001 := Aside0.mk (rD3 HO_294001.out)
                      replace BK293 := Aside0.mk (bD3 BK293.out)
                      replace BK310 := Aside0.mk (bD3 BK310.out)
                      replace HB := Aside0.mk (eD3 HB.out)
                      obtain ⟨Ao64, co64, eo64⟩ := Kd.R_slice HO_5.out
                      (first | subst eo64 | (injection eo64 with f1_ f2_ f3_; have f4_ := f1_.symm; have f5_ := f3_.symm; clear f1_ f2_ f3_; subst f4_; subst f5_))
                      have p311 : 0 ≤ (((rd_T33 t289 x7_2).f0) : Int) := of_decide_eq_true nx_
                      have q311 : ((rd_T33 t289 x7_2).f0) < (t294.length : Int) := of_decide_eq_true nx_
                      obtain ⟨ad311, e311, hx311_0⟩ := Kd.at_int (rR3 HO_5.out).2.2 ((rd_T33 t289 x7_2).f0) p311 q311
                      cases e311
                      replace p311 := eq_true p311
                      replace q311 := eq_true q311
                      have p312 : 0 ≤ (((rd_T33 t289 x7_2).f1) : Int) := of_decide_eq_true nx_
                      have q312 : ((rd_T33 t289 x7_2).f1) < (t294.length : Int) := of_decide_eq_true nx_
                      obtain ⟨ad312, e312, hx312_0⟩ := Kd.at_int (rR3 HO_5.out).2.2 ((rd_T33 t289 x7_2).f1) p312 q312
                      obtain rfl : ad311 = ad312 := (by injection e312)
                      replace p312 := eq_true p312
                      replace q312 := eq_true q312
                      have p313 : 0 ≤ (((rd_T33 t289 x7_2).f0) : Int) := of_decide_eq_true nx_
                      have q313 : ((rd_T33 t289 x7_2).f0) < (t294.length : Int) := of_decide_eq_true nx_
                      obtain ⟨ad313, e313, hx313_0⟩ := Kd.at_int (rR3 HO_5.out).2.2 ((rd_T33 t289 x7_2).f0) p313 q313
                      obtain rfl : ad311 = ad313 := (by injection e313)
                      replace p313 := eq_true p313
                      replace q313 := eq_true q313
                      refine start_ (n := 22) (S := fun w' => w'.cell? ⟨gb310, 0, none⟩ = some (.int .i64 ((rd_T33 t289 x7_2).f0)) ∧ w'.cell? ⟨gb310, 1, none⟩ = some (.int .i64 ((rd_T33 t289 x7_2).f1)) ∧ w'.cell? ⟨gb310, 2, none⟩ = some (.int .i64 ((rd_T33 t289 x7_2).f2)) ∧ w'.cell? ⟨gb310, 3, none⟩ = some (.int .i64 ((rd_T33 t289 x7_2).f3)) ∧ w'.cell? ⟨gb310, 4, none⟩ = some (.int .i64 ((rd_T33 t289 x7_2).f4)) ∧ w'.cell? (ad311.add (((rd_T33 t289 x7_2).f0)).toNat) = some (.int .i64 (rd t294 ((rd_T33 t289 x7_2).f0))) ∧ w'.cell? (ad311.add (((rd_T33 t289 x7_2).f1)).toNat) = some (.int .i64 (rd t294 ((rd_T33 t289 x7_2).f1))) ∧ w'.cell? (ad311.add (((rd_T33 t289 x7_2).f0)).toNat) = some (.int .i64 (rd t294 ((rd_T33 t289 x7_2).f0)))) (ds := []) z3_0 (by kernel_rfl) rfl rfl ⟨(bC3 BK310.out 0).trans rfl, (bC3 BK310.out 1).trans rfl, (bC3 BK310.out 2).trans rfl, (bC3 BK310.out 3).trans rfl, (bC3 BK310.out 4).trans rfl, hx311_0, hx312_0, hx313_0⟩ (fun hHeld => ?_); refine with_tabW laws_FnNearAll.tab13 laws_FnNearAll.bits13 (fun HT_ HW_ => ?_)
                      generalize w62.drew = w63 at HO_5 HO_6 HO_294001 BK293 BK310 HB hx311_0 hx312_0 hx313_0 hHeld ⊢
                      refine pu_ 0 55 z3_1 HT_.out ?_
                      refine pu_ 1 56 z3_2 HT_.out ?_
                      refine tk_ 2 57 z3_3 HT_.out HW_.out hHeld ?_
                      refine pu_ 3 58 z3_4 HT_.out ?_
                      refine tk_ 4 59 z3_5 HT_.out HW_.out hHeld ?_
                      refine pu_ 5 60 z3_6 HT_.out ?_
                      refine pu_ 6 61 z3_7 HT_.out ?_
                      refine pu_ 7 62 z3_8 HT_.out ?_
                      refine pu_ 8 63 z3_9 HT_.out ?_
                      refine pu_ 12 67 z3_10 HT_.out ?_
                      refine pu_ 13 68 z3_11 HT_.out ?_
                      refine pu_ 17 72 z3_12 HT_.out ?_
                      refine tk_ 9 64 z3_13 HT_.out HW_.out hHeld ?_
                      refine pu_ 10 65 z3_14 HT_.out ?_
                      refine tk_ 11 66 z3_15 HT_.out HW_.out hHeld ?_
                      refine tk_ 14 69 z3_16 HT_.out HW_.out hHeld ?_
                      refine pu_ 15 70 z3_17 HT_.out ?_
                      refine tk_ 16 71 z3_18 HT_.out HW_.out hHeld ?_
                      refine tk_ 18 73 z3_19 HT_.out HW_.out hHeld ?_
                      refine pu_ 19 74 z3_20 HT_.out ?_
                      refine pu_ 20 75 z3_21 HT_.out ?_
                      refine pu_ 21 76 z3_22 HT_.out ?_
                      refine done_ (done_of HT_.out (by kernel_rfl)) ?_
                      try go_wp2
                      replace HO_5 := Aside0.mk (rD3 HO_5.out)
                      replace HO_6 := Aside0.mk (rD3 HO_6.out)
                      replace HO_294001 := Aside0.mk (rD3 HO_294001.out)
                      replace BK293 := Aside0.mk (bD3 BK293.out)
                      replace BK310 := Aside0.mk (bD3 BK310.out)
                      replace HB := Aside0.mk (eD3 HB.out)
                      have p314 : 0 ≤ (((rd_T33 t289 x7_2).f1) : Int) := of_decide_eq_true nx_
                      have q314 : ((rd_T33 t289 x7_2).f1) < (x6_2.length : Int) := of_decide_eq_true nx_
                      obtain ⟨ad314, e314, hx314_0⟩ := Kd.at_bool (rR3 HO_6.out).2.2 ((rd_T33 t289 x7_2).f1) p314 q314
                      (try rw [← Nbq55.out] at hx314_0)
                      obtain rfl : (⟨go33, 0, none⟩ : Addr) = ad314 := (by injection e314)
                      (first | simp only [add_plain] at hx314_0 | simp only [add_at] at hx314_0 | simp only [Addr.add, Nat.zero_add] at hx314_0 | skip)
                      replace p314 := eq_true p314
                      replace q314 := eq_true q314
                      have p57 : 0 ≤ (((rd_T33 t289 x7_2).f1) : Int) := of_decide_eq_true nx_
                      have q57 : (((rd_T33 t289 x7_2).f1) : Int) < ((x6_2.length : Int) : Int) := of_decide_eq_true nx_
                      obtain ⟨hx57_0, hf57_0⟩ := Kd.R_celln false HO_6.out (((rd_T33 t289 x7_2).f1) : Int) p57 q57
                      obtain ⟨cy33, hy33_⟩ := Go.Proofs.YtbmoonciggfbpaaX.Kd.R_typ HO_6.out (by omega)
                      have GG33 := Aside0.mk hy33_
                      clear hy33_
                      replace p57 := eq_true p57
                      replace q57 := eq_true q57
                      have HP66 := Kd.R_putn HO_6.out (((rd_T33 t289 x7_2).f1) : Int) true
                      rw [← Ny315.out] at HP66
                      have HQ66 := Aside0.mk HP66
                      clear HP66
                      refine start_ (n := 34) (S := fun w' => w'.cell? ⟨gb310, 0, none⟩ = some (.int .i64 ((rd_T33 t289 x7_2).f0)) ∧ w'.cell? ⟨gb310, 1, none⟩ = some (.int .i64 ((rd_T33 t289 x7_2).f1)) ∧ w'.cell? ⟨gb310, 2, none⟩ = some (.int .i64 ((rd_T33 t289 x7_2).f2)) ∧ w'.cell? ⟨gb310, 3, none⟩ = some (.int .i64 ((rd_T33 t289 x7_2).f3)) ∧ w'.cell? ⟨gb310, 4, none⟩ = some (.int .i64 ((rd_T33 t289 x7_2).f4)) ∧ w'.cell? ⟨go33, (((rd_T33 t289 x7_2).f1)).toNat, none⟩ = some (.bool true)) (ds := [33]) z3_23 (by kernel_rfl) rfl rfl ⟨(bC3 BK310.out 0).trans rfl, (bC3 BK310.out 1).trans rfl, (bC3 BK310.out 2).trans rfl, (bC3 BK310.out 3).trans rfl, (bC3 BK310.out 4).trans rfl, hx314_0⟩ (fun hHeld => ?_); refine with_tabW laws_FnNearAll.tab15 laws_FnNearAll.bits15 (fun HT_ HW_ => ?_)
                      generalize w63.drew = w65 at GG33 HO_5 HO_6 HO_294001 BK293 BK310 HB HQ66 hf57_0 hx314_0 hx57_0 hHeld ⊢
                      refine pu_ 0 77 z3_24 HT_.out ?_
                      refine pu_ 1 78 z3_25 HT_.out ?_
                      refine pu_ 3 80 z3_26 HT_.out ?_
                      refine pu_ 4 81 z3_27 HT_.out ?_
                      refine tk_ 2 79 z3_28 HT_.out HW_.out hHeld ?_
                      refine tk_ 5 82 z3_29 HT_.out HW_.out hHeld ?_
                      refine pu_ 6 83 z3_30 HT_.out ?_
                      refine tk_ 7 84 z3_31 HT_.out HW_.out hHeld ?_
                      refine pu_ 8 85 z3_32 HT_.out ?_
                      refine un_ 9 86 z3_33 HT_.out ?_
                      refine un_ 10 87 z3_34 HT_.out ?_
                      refine un_ 11 88 z3_35 HT_.out ?_
                      refine un_ 12 89 z3_36 HT_.out ?_
                      refine un_ 13 90 z3_37 HT_.out ?_
                      refine un_ 14 91 z3_38 HT_.out ?_
                      refine un_ 15 92 z3_39 HT_.out ?_
                      refine un_ 16 93 z3_40 HT_.out ?_
                      refine un_ 17 94 z3_41 HT_.out ?_
                      refine un_ 18 95 z3_42 HT_.out ?_
                      refine un_ 19 96 z3_43 HT_.out ?_
                      refine un_ 20 97 z3_44 HT_.out ?_
                      refine un_ 21 98 z3_45 HT_.out ?_
                      refine un_ 22 99 z3_46 HT_.out ?_
                      refine un_ 23 100 z3_47 HT_.out ?_
                      refine un_ 24 101 z3_48 HT_.out ?_
                      refine un_ 25 102 z3_49 HT_.out ?_
                      refine un_ 26 103 z3_50 HT_.out ?_
                      refine un_ 27 104 z3_51 HT_.out ?_
                      refine un_ 28 105 z3_52 HT_.out ?_
                      refine un_ 29 106 z3_53 HT_.out ?_
                      refine un_ 30 107 z3_54 HT_.out ?_
                      refine pu_ 31 108 z3_55 HT_.out ?_
                      refine pu_ 32 109 z3_56 HT_.out ?_
                      refine last_ (i := 33) (N := none) z3_57 rfl rfl (one_of HT_.out (by kernel_rfl)) (by decide) (fun K hK => ?_)
                      refine skip_ (w1 := ?_) (by rfl) rfl ?_ ?_
                      rotate_left
                      ·go_simp
                       rfl
                      refine hK.out _ _ ?_
                      clear hK K
                      refine done_ (done_of HT_.out (by kernel_rfl)) ?_
                      try go_wp2
                      (try simp only [← hl6_2])
                      go_roundg k2
                      case measure => have := HJ4.out; have := HK2.out; omega
                      case rel => exact ⟨(y315), (wrap64 (x7_2 + 1)), ns_, H', ⟨by have := HJ4.out; have := HK2.out; omega⟩, ⟨by (try simp only [hl6_2]); (with_reducible repeat (first | apply rA3 | apply rN3 | apply rD3)); exact Kd.R_mono (rF3 (p := ⟨go33, (((rd_T33 t289 x7_2).f1) : Int).toNat, none⟩) (Kd.R_types HO_5.out GG33.out (by decide)) (fun _ hk => hk.2) (.bool true)) (fun _ hk => trivial)⟩, ⟨by (try simp only [hl6_2]); (with_reducible repeat (first | apply rA3 | apply rN3 | apply rD3)); exact HQ66.out⟩, ⟨by (try simp only [hl6_2]); (with_reducible repeat (first | apply rA3 | apply rN3 | apply rD3)); exact Kd.R_mono (rF3 (p := ⟨go33, (((rd_T33 t289 x7_2).f1) : Int).toNat, none⟩) (Kd.R_types HO_294001.out GG33.out (by decide)) (fun _ hk => hk.2) (.bool true)) (fun _ hk => trivial)⟩, ⟨by (try simp only [hl6_2]); (with_reducible repeat (first | refine bN3 ?_ _ | refine bD3 ?_ | refine bA3 ?_ _)); refine blk_far ?_ (by have h_ := Kd.R_ne HO_6.out BK293.out (by decide); intro e_; exact h_ (by rw [e_]; rfl)) _; (with_reducible repeat (first | refine bN3 ?_ _ | refine bD3 ?_ | refine bA3 ?_ _)); exact BK293.out⟩, ⟨by repeat (first | (with_reducible first | exact HB.out | apply below_alloc | apply eN3 | apply eD3 | refine bS3 ?_ GB33.out | refine bS3 ?_ GE293.out | refine bS3 ?_ GE310.out) | exact HB.out)⟩⟩
                     ·replace c56 := Bool.eq_false_iff.mpr c56
                      subst c56
                      have H1 : (laws_FnNearAll.l0 k2 t292 t294 (x6_2.set (((rd_T33 t289 x7_2).f1) : Int).toNat ((rd t294 ((rd_T33 t289 x7_2).f1)) == (wrap64 ((rd t294 ((rd_T33 t289 x7_2).f0)) + ((rd_T33 t289 x7_2).f2))))) (wrap64 (x7_2 + 1)) t288 t289) = some r := by rw [if_neg (show ¬ (false = true) by decide)] at H; exact H
                      clear H
                      have H := H1
                      clear H1
                      obtain ⟨y319, hy319⟩ : ∃ y_ : List Bool, y_ = (x6_2.set (((rd_T33 t289 x7_2).f1) : Int).toNat ((rd t294 ((rd_T33 t289 x7_2).f1)) == (wrap64 ((rd t294 ((rd_T33 t289 x7_2).f0)) + ((rd_T33 t289 x7_2).f2))))) := ⟨_, rfl⟩
                      replace H : (laws_FnNearAll.l0 k2 t292 t294 y319 (wrap64 (x7_2 + 1)) t288 t289) = some r := by first | (rw [hy319]; with_reducible exact H) | (have H2_ := (Option.bind_some _ _).symm.trans H; rw [hy319]; with_reducible exact H2_) | (have H2_ := (Option.bind_some _ _).symm.trans H; with_reducible exact H2_) | with_reducible exact H | (rw [hy319]; exact H) | exact H
                      have Ny319 := Aside0.mk hy319
                      clear hy319
                      have H' := Aside0.mk H
                      clear H
                      have hcz68_0 : wr.cell? ⟨gb293, 0, none⟩ = some (.int .i64 t288) := (bC3 BK293.out 0).trans rfl
                      have hcz68_1 : wr.cell? ⟨gb293, 1, none⟩ = some (.slice Ao9 t289.length co9) := (bC3 BK293.out 1).trans rfl
                      have hfz68_0 := blk_frozen BK293.out 0
                      have hfz68_1 := blk_frozen BK293.out 1
                      have p309 : 0 ≤ (x7_2 : Int) := of_decide_eq_true nx_
                      have q309 : x7_2 < (t289.length : Int) := of_decide_eq_true nx_
                      obtain ⟨ad309, e309, hx309_0, hx309_1, hx309_2, hx309_3, hx309_4⟩ := at_T33 (rR3 HO_294001.out).2.2 x7_2 p309 q309
                      cases e309
                      replace p309 := eq_true p309
                      replace q309 := eq_true q309
                      try go_wp2_with (first | ((with_reducible refine gate_dst (N := 8) rfl ?_); (try (refine gate_guard (by rfl) ?_; dsimp only)); refine box_event ?hg (N := 8) ?hd (cs := #[.int .i64 0, .int .i64 0, .int .i64 0, .int .i64 0, .int .i64 0]) (t := 33) ?hr ?_; (case hd => rfl); (case hg => rfl); (case hr => first | (go_simp; done) | (go_simp; rfl)); intro gb310 hg w69 hbox hb; have n0_ := Aside0.mk (Kd.R_below (nr_ HO_5.out) hb); have n1_ := Aside0.mk (Kd.R_below (nr_ HO_6.out) hb); have n2_ := Aside0.mk (Kd.R_below (Kd.R_elderB (nr_ HO_294001.out) gb310 (Nat.le_of_eq hg.symm)) hb); have n3_ := Aside0.mk (blk_below (g := gb293) (o := .cells #[.int .i64 t288, .slice (some ad309) t289.length co9] 25 (0, 0)) (nb_ BK293.out) hb); have n4_ := Aside0.mk (below_step (ne_ HB.out) hb); have n5_ := Aside0.mk (hbox); have n6_ := Aside0.mk ((by rw [hg]; exact (below_size (ne_ HB.out)) : w.heap.size ≤ gb310)); have n7_ := Aside0.mk ((by rw [hg]; exact (below_size (ne_ HB.out)) : w.heap.size ≤ gb310)); have n8_ := Aside0.mk ((by rw [hg]; exact Nat.ne_of_lt (blk_lt (g := gb293) (o := .cells #[.int .i64 t288, .slice (some ad309) t289.length co9] 25 (0, 0)) (nb_ BK293.out)) : gb293 ≠ gb310)); have n9_ := Aside0.mk ((by rw [hg]; exact Nat.ne_of_gt (blk_lt (g := gb293) (o := .cells #[.int .i64 t288, .slice (some ad309) t289.length co9] 25 (0, 0)) (nb_ BK293.out)) : gb310 ≠ gb293)); clear HO_5; clear HO_6; clear HO_294001; clear BK293; clear HB; have HO_5 := n0_; have HO_6 := n1_; have HO_294001 := n2_; have BK293 := n3_; have HB := n4_; have BK310 := n5_; have GW310 := n6_; have GE310 := n7_; have NB293_310 := n8_; have NB310_293 := n9_; clear n0_ n1_ n2_ n3_ n4_ n5_ n6_ n7_ n8_ n9_; clear hb hbox hg; have hnb70 := NB310_293.out; have hnc70 := NB293_310.out; have hcz71_0 : w69.cell? ⟨gb310, 0, none⟩ = some (.int .i64 0) := (bC3 BK310.out 0).trans rfl; have hcz71_1 : w69.cell? ⟨gb310, 1, none⟩ = some (.int .i64 0) := (bC3 BK310.out 1).trans rfl; have hcz71_2 : w69.cell? ⟨gb310, 2, none⟩ = some (.int .i64 0) := (bC3 BK310.out 2).trans rfl; have hcz71_3 : w69.cell? ⟨gb310, 3, none⟩ = some (.int .i64 0) := (bC3 BK310.out 3).trans rfl; have hcz71_4 : w69.cell? ⟨gb310, 4, none⟩ = some (.int .i64 0) := (bC3 BK310.out 4).trans rfl; have hfz71_0 := blk_frozen BK310.out 0; have hfz71_1 := blk_frozen BK310.out 1; have hfz71_2 := blk_frozen BK310.out 2; have hfz71_3 := blk_frozen BK310.out 3; have hfz71_4 := blk_frozen BK310.out 4))
                      have n0_ : Aside0 (Kd.R (Kd.int .i64) 3 (((((w69.setCell ⟨gb310, 0, none⟩ (.int .i64 ((rd_T33 t289 x7_2).f0))).setCell ⟨gb310, 1, none⟩ (.int .i64 ((rd_T33 t289 x7_2).f1))).setCell ⟨gb310, 2, none⟩ (.int .i64 ((rd_T33 t289 x7_2).f2))).setCell ⟨gb310, 3, none⟩ (.int .i64 ((rd_T33 t289 x7_2).f3))).setCell ⟨gb310, 4, none⟩ (.int .i64 ((rd_T33 t289 x7_2).f4))) w.heap.size (fun _ => True) v295 t294) := ⟨by (with_reducible repeat (first | apply rA3 | apply rN3 | apply rD3)); exact Kd.R_mono (rF3 (p := ⟨gb310, 4, none⟩) (rF3 (p := ⟨gb310, 3, none⟩) (rF3 (p := ⟨gb310, 2, none⟩) (rF3 (p := ⟨gb310, 1, none⟩) (rF3 (p := ⟨gb310, 0, none⟩) (Kd.R_types HO_5.out BK310.out (by decide)) (fun _ hk => hk.2) (.int .i64 ((rd_T33 t289 x7_2).f0))) (fun _ hk => hk.2) (.int .i64 ((rd_T33 t289 x7_2).f1))) (fun _ hk => hk.2) (.int .i64 ((rd_T33 t289 x7_2).f2))) (fun _ hk => hk.2) (.int .i64 ((rd_T33 t289 x7_2).f3))) (fun _ hk => hk.2) (.int .i64 ((rd_T33 t289 x7_2).f4))) (fun _ hk => trivial)⟩
                      have n1_ : Aside0 (Kd.R Kd.bool 4 (((((w69.setCell ⟨gb310, 0, none⟩ (.int .i64 ((rd_T33 t289 x7_2).f0))).setCell ⟨gb310, 1, none⟩ (.int .i64 ((rd_T33 t289 x7_2).f1))).setCell ⟨gb310, 2, none⟩ (.int .i64 ((rd_T33 t289 x7_2).f2))).setCell ⟨gb310, 3, none⟩ (.int .i64 ((rd_T33 t289 x7_2).f3))).setCell ⟨gb310, 4, none⟩ (.int .i64 ((rd_T33 t289 x7_2).f4))) w.heap.size (fun _ => True) (.slice (some ⟨go33, 0, none⟩) x6_2.length co33) x6_2) := ⟨by (with_reducible repeat (first | apply rA3 | apply rN3 | apply rD3)); exact Kd.R_mono (rF3 (p := ⟨gb310, 4, none⟩) (rF3 (p := ⟨gb310, 3, none⟩) (rF3 (p := ⟨gb310, 2, none⟩) (rF3 (p := ⟨gb310, 1, none⟩) (rF3 (p := ⟨gb310, 0, none⟩) (Kd.R_types HO_6.out BK310.out (by decide)) (fun _ hk => hk.2) (.int .i64 ((rd_T33 t289 x7_2).f0))) (fun _ hk => hk.2) (.int .i64 ((rd_T33 t289 x7_2).f1))) (fun _ hk => hk.2) (.int .i64 ((rd_T33 t289 x7_2).f2))) (fun _ hk => hk.2) (.int .i64 ((rd_T33 t289 x7_2).f3))) (fun _ hk => hk.2) (.int .i64 ((rd_T33 t289 x7_2).f4))) (fun _ hk => trivial)⟩
                      have n2_ : Aside0 (Kd.R k33 33 (((((w69.setCell ⟨gb310, 0, none⟩ (.int .i64 ((rd_T33 t289 x7_2).f0))).setCell ⟨gb310, 1, none⟩ (.int .i64 ((rd_T33 t289 x7_2).f1))).setCell ⟨gb310, 2, none⟩ (.int .i64 ((rd_T33 t289 x7_2).f2))).setCell ⟨gb310, 3, none⟩ (.int .i64 ((rd_T33 t289 x7_2).f3))).setCell ⟨gb310, 4, none⟩ (.int .i64 ((rd_T33 t289 x7_2).f4))) w.heap.size (fun k_ => k_ ≠ gb310) (.slice (some ad309) t289.length co9) t289) := ⟨by (with_reducible repeat (first | apply rA3 | apply rN3 | apply rD3)); exact Kd.R_mono (rF3 (p := ⟨gb310, 4, none⟩) (rF3 (p := ⟨gb310, 3, none⟩) (rF3 (p := ⟨gb310, 2, none⟩) (rF3 (p := ⟨gb310, 1, none⟩) (rF3 (p := ⟨gb310, 0, none⟩) (Kd.R_mono HO_294001.out (fun k_ hk => (⟨hk, hk.2⟩ : _ ∧ k_ ≠ gb310))) (fun _ hk => hk.2) (.int .i64 ((rd_T33 t289 x7_2).f0))) (fun _ hk => hk.2) (.int .i64 ((rd_T33 t289 x7_2).f1))) (fun _ hk => hk.2) (.int .i64 ((rd_T33 t289 x7_2).f2))) (fun _ hk => hk.2) (.int .i64 ((rd_T33 t289 x7_2).f3))) (fun _ hk => hk.2) (.int .i64 ((rd_T33 t289 x7_2).f4))) (fun _ hk => by first | exact hk.1.2 | trivial | simp_all)⟩
                      have n3_ : Aside0 ((((((w69.setCell ⟨gb310, 0, none⟩ (.int .i64 ((rd_T33 t289 x7_2).f0))).setCell ⟨gb310, 1, none⟩ (.int .i64 ((rd_T33 t289 x7_2).f1))).setCell ⟨gb310, 2, none⟩ (.int .i64 ((rd_T33 t289 x7_2).f2))).setCell ⟨gb310, 3, none⟩ (.int .i64 ((rd_T33 t289 x7_2).f3))).setCell ⟨gb310, 4, none⟩ (.int .i64 ((rd_T33 t289 x7_2).f4))).heap[gb293]? = some (.cells #[.int .i64 t288, .slice (some ad309) t289.length co9] 25 (0, 0))) := ⟨by (with_reducible repeat (first | refine bN3 ?_ _ | refine bD3 ?_ | refine bA3 ?_ _)); refine blk_far ?_ NB293_310.out _; (with_reducible repeat (first | refine bN3 ?_ _ | refine bD3 ?_ | refine bA3 ?_ _)); refine blk_far ?_ NB293_310.out _; (with_reducible repeat (first | refine bN3 ?_ _ | refine bD3 ?_ | refine bA3 ?_ _)); refine blk_far ?_ NB293_310.out _; (with_reducible repeat (first | refine bN3 ?_ _ | refine bD3 ?_ | refine bA3 ?_ _)); refine blk_far ?_ NB293_310.out _; (with_reducible repeat (first | refine bN3 ?_ _ | refine bD3 ?_ | refine bA3 ?_ _)); refine blk_far ?_ NB293_310.out _; (with_reducible repeat (first | refine bN3 ?_ _ | refine bD3 ?_ | refine bA3 ?_ _)); exact BK293.out⟩
                      have n4_ : Aside0 ((((((w69.setCell ⟨gb310, 0, none⟩ (.int .i64 ((rd_T33 t289 x7_2).f0))).setCell ⟨gb310, 1, none⟩ (.int .i64 ((rd_T33 t289 x7_2).f1))).setCell ⟨gb310, 2, none⟩ (.int .i64 ((rd_T33 t289 x7_2).f2))).setCell ⟨gb310, 3, none⟩ (.int .i64 ((rd_T33 t289 x7_2).f3))).setCell ⟨gb310, 4, none⟩ (.int .i64 ((rd_T33 t289 x7_2).f4))).heap[gb310]? = some (.cells #[.int .i64 ((rd_T33 t289 x7_2).f0), .int .i64 ((rd_T33 t289 x7_2).f1), .int .i64 ((rd_T33 t289 x7_2).f2), .int .i64 ((rd_T33 t289 x7_2).f3), .int .i64 ((rd_T33 t289 x7_2).f4)] 33 (0, 0))) := ⟨by (with_reducible repeat (first | refine bN3 ?_ _ | refine bD3 ?_ | refine bA3 ?_ _)); refine blk_put (cs := #[.int .i64 ((rd_T33 t289 x7_2).f0), .int .i64 ((rd_T33 t289 x7_2).f1), .int .i64 ((rd_T33 t289 x7_2).f2), .int .i64 ((rd_T33 t289 x7_2).f3), .int .i64 0]) ?_ 4 _ rfl; (with_reducible repeat (first | refine bN3 ?_ _ | refine bD3 ?_ | refine bA3 ?_ _)); refine blk_put (cs := #[.int .i64 ((rd_T33 t289 x7_2).f0), .int .i64 ((rd_T33 t289 x7_2).f1), .int .i64 ((rd_T33 t289 x7_2).f2), .int .i64 0, .int .i64 0]) ?_ 3 _ rfl; (with_reducible repeat (first | refine bN3 ?_ _ | refine bD3 ?_ | refine bA3 ?_ _)); refine blk_put (cs := #[.int .i64 ((rd_T33 t289 x7_2).f0), .int .i64 ((rd_T33 t289 x7_2).f1), .int .i64 0, .int .i64 0, .int .i64 0]) ?_ 2 _ rfl; (with_reducible repeat (first | refine bN3 ?_ _ | refine bD3 ?_ | refine bA3 ?_ _)); refine blk_put (cs := #[.int .i64 ((rd_T33 t289 x7_2).f0), .int .i64 0, .int .i64 0, .int .i64 0, .int .i64 0]) ?_ 1 _ rfl; (with_reducible repeat (first | refine bN3 ?_ _ | refine bD3 ?_ | refine bA3 ?_ _)); refine blk_put (cs := #[.int .i64 0, .int .i64 0, .int .i64 0, .int .i64 0, .int .i64 0]) ?_ 0 _ rfl; (with_reducible repeat (first | refine bN3 ?_ _ | refine bD3 ?_ | refine bA3 ?_ _)); exact BK310.out⟩
                      have n5_ : Aside0 (Below w.heap.size w (((((w69.setCell ⟨gb310, 0, none⟩ (.int .i64 ((rd_T33 t289 x7_2).f0))).setCell ⟨gb310, 1, none⟩ (.int .i64 ((rd_T33 t289 x7_2).f1))).setCell ⟨gb310, 2, none⟩ (.int .i64 ((rd_T33 t289 x7_2).f2))).setCell ⟨gb310, 3, none⟩ (.int .i64 ((rd_T33 t289 x7_2).f3))).setCell ⟨gb310, 4, none⟩ (.int .i64 ((rd_T33 t289 x7_2).f4)))) := ⟨by repeat (first | (with_reducible first | exact HB.out | apply below_alloc | apply eN3 | apply eD3 | refine bS3 ?_ GE293.out | refine bS3 ?_ GE310.out) | exact HB.out)⟩
                      (try clear HO_5)
                      (try clear HO_6)
                      (try clear HO_294001)
                      (try clear BK293)
                      (try clear BK310)
                      (try clear HB)
                      generalize (((((w69.setCell ⟨gb310, 0, none⟩ (.int .i64 ((rd_T33 t289 x7_2).f0))).setCell ⟨gb310, 1, none⟩ (.int .i64 ((rd_T33 t289 x7_2).f1))).setCell ⟨gb310, 2, none⟩ (.int .i64 ((rd_T33 t289 x7_2).f2))).setCell ⟨gb310, 3, none⟩ (.int .i64 ((rd_T33 t289 x7_2).f3))).setCell ⟨gb310, 4, none⟩ (.int .i64 ((rd_T33 t289 x7_2).f4))) = w72 at n0_ n1_ n2_ n3_ n4_ n5_ ⊢
                      have HO_5 := n0_
                      have HO_6 := n1_
                      have HO_294001 := n2_
                      have BK293 := n3_
                      have BK310 := n4_
                      have HB := n5_
                      clear n0_ n1_ n2_ n3_ n4_ n5_
                      replace HO_5 := Aside0.mk (rD3 HO_5.out)
                      replace HO_6 := Aside0.mk (rD3 HO_6.out)
                      replace HO_294001 := Aside0.mk (rD3 HO_294001.out)
                      replace BK293 := Aside0.mk (bD3 BK293.out)
                      replace BK310 := Aside0.mk (bD3 BK310.out)
                      replace HB := Aside0.mk (eD3 HB.out)
                      obtain ⟨Ao74, co74, eo74⟩ := Kd.R_slice HO_5.out
                      (first | subst eo74 | (injection eo74 with f1_ f2_ f3_; have f4_ := f1_.symm; have f5_ := f3_.symm; clear f1_ f2_ f3_; subst f4_; subst f5_))
                      have p311 : 0 ≤ (((rd_T33 t289 x7_2).f0) : Int) := of_decide_eq_true nx_
                      have q311 : ((rd_T33 t289 x7_2).f0) < (t294.length : Int) := of_decide_eq_true nx_
                      obtain ⟨ad311, e311, hx311_0⟩ := Kd.at_int (rR3 HO_5.out).2.2 ((rd_T33 t289 x7_2).f0) p311 q311
                      cases e311
                      replace p311 := eq_true p311
                      replace q311 := eq_true q311
                      have p312 : 0 ≤ (((rd_T33 t289 x7_2).f1) : Int) := of_decide_eq_true nx_
                      have q312 : ((rd_T33 t289 x7_2).f1) < (t294.length : Int) := of_decide_eq_true nx_
                      obtain ⟨ad312, e312, hx312_0⟩ := Kd.at_int (rR3 HO_5.out).2.2 ((rd_T33 t289 x7_2).f1) p312 q312
                      obtain rfl : ad311 = ad312 := (by injection e312)
                      replace p312 := eq_true p312
                      replace q312 := eq_true q312
                      have p313 : 0 ≤ (((rd_T33 t289 x7_2).f0) : Int) := of_decide_eq_true nx_
                      have q313 : ((rd_T33 t289 x7_2).f0) < (t294.length : Int) := of_decide_eq_true nx_
                      obtain ⟨ad313, e313, hx313_0⟩ := Kd.at_int (rR3 HO_5.out).2.2 ((rd_T33 t289 x7_2).f0) p313 q313
                      obtain rfl : ad311 = ad313 := (by injection e313)
                      replace p313 := eq_true p313
                      replace q313 := eq_true q313
                      refine start_ (n := 22) (S := fun w' => w'.cell? ⟨gb310, 0, none⟩ = some (.int .i64 ((rd_T33 t289 x7_2).f0)) ∧ w'.cell? ⟨gb310, 1, none⟩ = some (.int .i64 ((rd_T33 t289 x7_2).f1)) ∧ w'.cell? ⟨gb310, 2, none⟩ = some (.int .i64 ((rd_T33 t289 x7_2).f2)) ∧ w'.cell? ⟨gb310, 3, none⟩ = some (.int .i64 ((rd_T33 t289 x7_2).f3)) ∧ w'.cell? ⟨gb310, 4, none⟩ = some (.int .i64 ((rd_T33 t289 x7_2).f4)) ∧ w'.cell? (ad311.add (((rd_T33 t289 x7_2).f0)).toNat) = some (.int .i64 (rd t294 ((rd_T33 t289 x7_2).f0))) ∧ w'.cell? (ad311.add (((rd_T33 t289 x7_2).f1)).toNat) = some (.int .i64 (rd t294 ((rd_T33 t289 x7_2).f1))) ∧ w'.cell? (ad311.add (((rd_T33 t289 x7_2).f0)).toNat) = some (.int .i64 (rd t294 ((rd_T33 t289 x7_2).f0)))) (ds := []) z3_0 (by kernel_rfl) rfl rfl ⟨(bC3 BK310.out 0).trans rfl, (bC3 BK310.out 1).trans rfl, (bC3 BK310.out 2).trans rfl, (bC3 BK310.out 3).trans rfl, (bC3 BK310.out 4).trans rfl, hx311_0, hx312_0, hx313_0⟩ (fun hHeld => ?_); refine with_tabW laws_FnNearAll.tab13 laws_FnNearAll.bits13 (fun HT_ HW_ => ?_)
                      generalize w72.drew = w73 at HO_5 HO_6 HO_294001 BK293 BK310 HB hx311_0 hx312_0 hx313_0 hHeld ⊢
                      refine pu_ 0 55 z3_1 HT_.out ?_
                      refine pu_ 1 56 z3_2 HT_.out ?_
                      refine tk_ 2 57 z3_3 HT_.out HW_.out hHeld ?_
                      refine pu_ 3 58 z3_4 HT_.out ?_
                      refine tk_ 4 59 z3_5 HT_.out HW_.out hHeld ?_
                      refine pu_ 5 60 z3_6 HT_.out ?_
                      refine pu_ 6 61 z3_7 HT_.out ?_
                      refine pu_ 7 62 z3_8 HT_.out ?_
                      refine pu_ 8 63 z3_9 HT_.out ?_
                      refine pu_ 12 67 z3_10 HT_.out ?_
                      refine pu_ 13 68 z3_11 HT_.out ?_
                      refine pu_ 17 72 z3_12 HT_.out ?_
                      refine tk_ 9 64 z3_13 HT_.out HW_.out hHeld ?_
                      refine pu_ 10 65 z3_14 HT_.out ?_
                      refine tk_ 11 66 z3_15 HT_.out HW_.out hHeld ?_
                      refine tk_ 14 69 z3_16 HT_.out HW_.out hHeld ?_
                      refine pu_ 15 70 z3_17 HT_.out ?_
                      refine tk_ 16 71 z3_18 HT_.out HW_.out hHeld ?_
                      refine tk_ 18 73 z3_19 HT_.out HW_.out hHeld ?_
                      refine pu_ 19 74 z3_20 HT_.out ?_
                      refine pu_ 20 75 z3_21 HT_.out ?_
                      refine pu_ 21 76 z3_22 HT_.out ?_
                      refine done_ (done_of HT_.out (by kernel_rfl)) ?_
                      try go_wp2
                      replace HO_5 := Aside0.mk (rD3 HO_5.out)
                      replace HO_6 := Aside0.mk (rD3 HO_6.out)
                      replace HO_294001 := Aside0.mk (rD3 HO_294001.out)
                      replace BK293 := Aside0.mk (bD3 BK293.out)
                      replace BK310 := Aside0.mk (bD3 BK310.out)
                      replace HB := Aside0.mk (eD3 HB.out)
                      have p314 : 0 ≤ (((rd_T33 t289 x7_2).f1) : Int) := of_decide_eq_true nx_
                      have q314 : ((rd_T33 t289 x7_2).f1) < (x6_2.length : Int) := of_decide_eq_true nx_
                      obtain ⟨ad314, e314, hx314_0⟩ := Kd.at_bool (rR3 HO_6.out).2.2 ((rd_T33 t289 x7_2).f1) p314 q314
                      (try rw [← Nbq55.out] at hx314_0)
                      obtain rfl : (⟨go33, 0, none⟩ : Addr) = ad314 := (by injection e314)
                      (first | simp only [add_plain] at hx314_0 | simp only [add_at] at hx314_0 | simp only [Addr.add, Nat.zero_add] at hx314_0 | skip)
                      replace p314 := eq_true p314
                      replace q314 := eq_true q314
                      have p316 : 0 ≤ (((rd_T33 t289 x7_2).f0) : Int) := of_decide_eq_true nx_
                      have q316 : ((rd_T33 t289 x7_2).f0) < (t294.length : Int) := of_decide_eq_true nx_
                      obtain ⟨ad316, e316, hx316_0⟩ := Kd.at_int (rR3 HO_5.out).2.2 ((rd_T33 t289 x7_2).f0) p316 q316
                      obtain rfl : ad311 = ad316 := (by injection e316)
                      replace p316 := eq_true p316
                      replace q316 := eq_true q316
                      have p317 : 0 ≤ (((rd_T33 t289 x7_2).f1) : Int) := of_decide_eq_true nx_
                      have q317 : ((rd_T33 t289 x7_2).f1) < (t294.length : Int) := of_decide_eq_true nx_
                      obtain ⟨ad317, e317, hx317_0⟩ := Kd.at_int (rR3 HO_5.out).2.2 ((rd_T33 t289 x7_2).f1) p317 q317
                      obtain rfl : ad311 = ad317 := (by injection e317)
                      replace p317 := eq_true p317
                      replace q317 := eq_true q317
                      have p318 : 0 ≤ (((rd_T33 t289 x7_2).f0) : Int) := of_decide_eq_true nx_
                      have q318 : ((rd_T33 t289 x7_2).f0) < (t294.length : Int) := of_decide_eq_true nx_
                      obtain ⟨ad318, e318, hx318_0⟩ := Kd.at_int (rR3 HO_5.out).2.2 ((rd_T33 t289 x7_2).f0) p318 q318
                      obtain rfl : ad311 = ad318 := (by injection e318)
                      replace p318 := eq_true p318
                      replace q318 := eq_true q318
                      have p67 : 0 ≤ (((rd_T33 t289 x7_2).f1) : Int) := of_decide_eq_true nx_
                      have q67 : (((rd_T33 t289 x7_2).f1) : Int) < ((x6_2.length : Int) : Int) := of_decide_eq_true nx_
                      obtain ⟨hx67_0, hf67_0⟩ := Kd.R_celln false HO_6.out (((rd_T33 t289 x7_2).f1) : Int) p67 q67
                      obtain ⟨cy33, hy33_⟩ := Go.Proofs.YtbmoonciggfbpaaX.Kd.R_typ HO_6.out (by omega)
                      have GG33 := Aside0.mk hy33_
                      clear hy33_
                      replace p67 := eq_true p67
                      replace q67 := eq_true q67
                      have HP76 := Kd.R_putn HO_6.out (((rd_T33 t289 x7_2).f1) : Int) ((rd t294 ((rd_T33 t289 x7_2).f1)) == (wrap64 ((rd t294 ((rd_T33 t289 x7_2).f0)) + ((rd_T33 t289 x7_2).f2))))
                      rw [← Ny319.out] at HP76
                      have HQ76 := Aside0.mk HP76
                      clear HP76
                      refine start_ (n := 34) (S := fun w' => w'.cell? ⟨gb310, 0, none⟩ = some (.int .i64 ((rd_T33 t289 x7_2).f0)) ∧ w'.cell? ⟨gb310, 1, none⟩ = some (.int .i64 ((rd_T33 t289 x7_2).f1)) ∧ w'.cell? ⟨gb310, 2, none⟩ = some (.int .i64 ((rd_T33 t289 x7_2).f2)) ∧ w'.cell? ⟨gb310, 3, none⟩ = some (.int .i64 ((rd_T33 t289 x7_2).f3)) ∧ w'.cell? ⟨gb310, 4, none⟩ = some (.int .i64 ((rd_T33 t289 x7_2).f4)) ∧ w'.cell? ⟨go33, (((rd_T33 t289 x7_2).f1)).toNat, none⟩ = some (.bool false) ∧ w'.cell? (ad311.add (((rd_T33 t289 x7_2).f0)).toNat) = some (.int .i64 (rd t294 ((rd_T33 t289 x7_2).f0))) ∧ w'.cell? (ad311.add (((rd_T33 t289 x7_2).f1)).toNat) = some (.int .i64 (rd t294 ((rd_T33 t289 x7_2).f1))) ∧ w'.cell? (ad311.add (((rd_T33 t289 x7_2).f0)).toNat) = some (.int .i64 (rd t294 ((rd_T33 t289 x7_2).f0)))) (ds := [33]) z3_23 (by kernel_rfl) rfl rfl ⟨(bC3 BK310.out 0).trans rfl, (bC3 BK310.out 1).trans rfl, (bC3 BK310.out 2).trans rfl, (bC3 BK310.out 3).trans rfl, (bC3 BK310.out 4).trans rfl, hx314_0, hx316_0, hx317_0, hx318_0⟩ (fun hHeld => ?_); refine with_tabW laws_FnNearAll.tab15 laws_FnNearAll.bits15 (fun HT_ HW_ => ?_)
                      generalize w73.drew = w75 at GG33 HO_5 HO_6 HO_294001 BK293 BK310 HB HQ76 hf67_0 hx314_0 hx316_0 hx317_0 hx318_0 hx67_0 hHeld ⊢
                      refine pu_ 0 77 z3_24 HT_.out ?_
                      refine pu_ 1 78 z3_25 HT_.out ?_
                      refine pu_ 3 80 z3_26 HT_.out ?_
                      refine pu_ 4 81 z3_27 HT_.out ?_
                      refine tk_ 2 79 z3_28 HT_.out HW_.out hHeld ?_
                      refine tk_ 5 82 z3_29 HT_.out HW_.out hHeld ?_
                      refine pu_ 6 83 z3_30 HT_.out ?_
                      refine tk_ 7 84 z3_31 HT_.out HW_.out hHeld ?_
                      refine pu_ 8 85 z3_32 HT_.out ?_
                      refine pu_ 9 86 z3_33 HT_.out ?_
                      refine pu_ 10 87 z3_34 HT_.out ?_
                      refine tk_ 11 88 z3_35 HT_.out HW_.out hHeld ?_
                      refine pu_ 12 89 z3_36 HT_.out ?_
                      refine tk_ 13 90 z3_37 HT_.out HW_.out hHeld ?_
                      refine pu_ 14 91 z3_38 HT_.out ?_
                      refine pu_ 15 92 z3_39 HT_.out ?_
                      refine pu_ 16 93 z3_40 HT_.out ?_
                      refine pu_ 17 94 z3_41 HT_.out ?_
                      refine pu_ 21 98 #[true, true, true, true, true, true, true, true, true, true, true, true, true, true, true, true, true, true, false, false, false, true, false, false, false, false, false, false, false, false, false, false, false, false] HT_.out ?_
                      refine pu_ 22 99 #[true, true, true, true, true, true, true, true, true, true, true, true, true, true, true, true, true, true, false, false, false, true, true, false, false, false, false, false, false, false, false, false, false, false] HT_.out ?_
                      refine pu_ 26 103 #[true, true, true, true, true, true, true, true, true, true, true, true, true, true, true, true, true, true, false, false, false, true, true, false, false, false, true, false, false, false, false, false, false, false] HT_.out ?_
                      refine tk_ 18 95 #[true, true, true, true, true, true, true, true, true, true, true, true, true, true, true, true, true, true, true, false, false, true, true, false, false, false, true, false, false, false, false, false, false, false] HT_.out HW_.out hHeld ?_
                      refine pu_ 19 96 #[true, true, true, true, true, true, true, true, true, true, true, true, true, true, true, true, true, true, true, true, false, true, true, false, false, false, true, false, false, false, false, false, false, false] HT_.out ?_
                      refine tk_ 20 97 #[true, true, true, true, true, true, true, true, true, true, true, true, true, true, true, true, true, true, true, true, true, true, true, false, false, false, true, false, false, false, false, false, false, false] HT_.out HW_.out hHeld ?_
                      refine tk_ 23 100 #[true, true, true, true, true, true, true, true, true, true, true, true, true, true, true, true, true, true, true, true, true, true, true, true, false, false, true, false, false, false, false, false, false, false] HT_.out HW_.out hHeld ?_
                      refine pu_ 24 101 #[true, true, true, true, true, true, true, true, true, true, true, true, true, true, true, true, true, true, true, true, true, true, true, true, true, false, true, false, false, false, false, false, false, false] HT_.out ?_
                      refine tk_ 25 102 z3_50 HT_.out HW_.out hHeld ?_
                      refine tk_ 27 104 z3_51 HT_.out HW_.out hHeld ?_
                      refine pu_ 28 105 z3_52 HT_.out ?_
                      refine pu_ 29 106 z3_53 HT_.out ?_
                      refine pu_ 30 107 z3_54 HT_.out ?_
                      refine pu_ 31 108 z3_55 HT_.out ?_
                      refine pu_ 32 109 z3_56 HT_.out ?_
                      refine last_ (i := 33) (N := none) z3_57 rfl rfl (one_of HT_.out (by kernel_rfl)) (by decide) (fun K hK => ?_)
                      refine skip_ (w1 := ?_) (by rfl) rfl ?_ ?_
                      rotate_left
                      ·go_simp
                       rfl
                      refine hK.out _ _ ?_
                      clear hK K
                      refine done_ (done_of HT_.out (by kernel_rfl)) ?_
                      try go_wp2
                      (try simp only [← hl6_2])
                      go_roundg k2
                      case measure => have := HJ4.out; have := HK2.out; omega
                      case rel => exact ⟨(y319), (wrap64 (x7_2 + 1)), ns_, H', ⟨by have := HJ4.out; have := HK2.out; omega⟩, ⟨by (try simp only [hl6_2]); (with_reducible repeat (first | apply rA3 | apply rN3 | apply rD3)); exact Kd.R_mono (rF3 (p := ⟨go33, (((rd_T33 t289 x7_2).f1) : Int).toNat, none⟩) (Kd.R_types HO_5.out GG33.out (by decide)) (fun _ hk => hk.2) (.bool ((rd t294 ((rd_T33 t289 x7_2).f1)) == (wrap64 ((rd t294 ((rd_T33 t289 x7_2).f0)) + ((rd_T33 t289 x7_2).f2)))))) (fun _ hk => trivial)⟩, ⟨by (try simp only [hl6_2]); (with_reducible repeat (first | apply rA3 | apply rN3 | apply rD3)); exact HQ76.out⟩, ⟨by (try simp only [hl6_2]); (with_reducible repeat (first | apply rA3 | apply rN3 | apply rD3)); exact Kd.R_mono (rF3 (p := ⟨go33, (((rd_T33 t289 x7_2).f1) : Int).toNat, none⟩) (Kd.R_types HO_294001.out GG33.out (by decide)) (fun _ hk => hk.2) (.bool ((rd t294 ((rd_T33 t289 x7_2).f1)) == (wrap64 ((rd t294 ((rd_T33 t289 x7_2).f0)) + ((rd_T33 t289 x7_2).f2)))))) (fun _ hk => trivial)⟩, ⟨by (try simp only [hl6_2]); (with_reducible repeat (first | refine bN3 ?_ _ | refine bD3 ?_ | refine bA3 ?_ _)); refine blk_far ?_ (by have h_ := Kd.R_ne HO_6.out BK293.out (by decide); intro e_; exact h_ (by rw [e_]; rfl)) _; (with_reducible repeat (first | refine bN3 ?_ _ | refine bD3 ?_ | refine bA3 ?_ _)); exact BK293.out⟩, ⟨by repeat (first | (with_reducible first | exact HB.out | apply below_alloc | apply eN3 | apply eD3 | refine bS3 ?_ GB33.out | refine bS3 ?_ GE293.out | refine bS3 ?_ GE310.out) | exact HB.out)⟩⟩
                    ·rw [if_neg c54] at H
                     exact absurd H (by simp)
                  ·rw [if_neg c45] at H
                   exact absurd H (by simp)
                 ·rw [if_neg c44] at H
                  exact absurd H (by simp)
                ·rw [if_neg c43] at H
                 have c43b0 : decide ((rd t294 ((rd_T33 t289 x7_2).f0)) < 99999) = false := decide_eq_false c43
                 clear c43
                 by_cases c77 : 0 ≤ ((rd_T33 t289 x7_2).f1)
                 ·rw [if_pos c77] at H
                  have c77b0 : decide (0 ≤ ((rd_T33 t289 x7_2).f1)) = true := decide_eq_true c77
                  clear c77
                  by_cases c78 : ((rd_T33 t289 x7_2).f1) < (x6_2.length : Int)
                  ·rw [if_pos c78] at H
                   have c78b0 : decide (((rd_T33 t289 x7_2).f1) < (x6_2.length : Int)) = true := decide_eq_true c78
                   clear c78
                   obtain ⟨bq79, hbq79⟩ : ∃ b_ : Bool, b_ = (rdOf false x6_2 ((rd_T33 t289 x7_2).f1)) := ⟨_, rfl⟩
                   replace H : (if bq79 = true then (laws_FnNearAll.l0 k2 t292 t294 (x6_2.set (((rd_T33 t289 x7_2).f1) : Int).toNat true) (wrap64 (x7_2 + 1)) t288 t289) else (laws_FnNearAll.l0 k2 t292 t294 (x6_2.set (((rd_T33 t289 x7_2).f1) : Int).toNat false) (wrap64 (x7_2 + 1)) t288 t289)) = some r := by rw [← hbq79] at H; exact H
                   have Nbq79 := Aside0.mk hbq79
                   clear hbq79
                   by_cases c80 : bq79 = true
                   ·subst c80
                    have H1 : (laws_FnNearAll.l0 k2 t292 t294 (x6_2.set (((rd_T33 t289 x7_2).f1) : Int).toNat true) (wrap64 (x7_2 + 1)) t288 t289) = some r := by rw [if_pos rfl] at H; exact H
                    clear H
                    have H := H1
                    clear H1
                    obtain ⟨y321, hy321⟩ : ∃ y_ : List Bool, y_ = (x6_2.set (((rd_T33 t289 x7_2).f1) : Int).toNat true) := ⟨_, rfl⟩
                    replace H : (laws_FnNearAll.l0 k2 t292 t294 y321 (wrap64 (x7_2 + 1)) t288 t289) = some r := by first | (rw [hy321]; with_reducible exact H) | (have H2_ := (Option.bind_some _ _).symm.trans H; rw [hy321]; with_reducible exact H2_) | (have H2_ := (Option.bind_some _ _).symm.trans H; with_reducible exact H2_) | with_reducible exact H | (rw [hy321]; exact H) | exact H
                    have Ny321 := Aside0.mk hy321
                    clear hy321
                    have H' := Aside0.mk H
                    clear H
                    have hcz82_0 : wr.cell? ⟨gb293, 0, none⟩ = some (.int .i64 t288) := (bC3 BK293.out 0).trans rfl
                    have hcz82_1 : wr.cell? ⟨gb293, 1, none⟩ = some (.slice Ao9 t289.length co9) := (bC3 BK293.out 1).trans rfl
                    have hfz82_0 := blk_frozen BK293.out 0
                    have hfz82_1 := blk_frozen BK293.out 1
                    have p309 : 0 ≤ (x7_2 : Int) := of_decide_eq_true nx_
                    have q309 : x7_2 < (t289.length : Int) := of_decide_eq_true nx_
                    obtain ⟨ad309, e309, hx309_0, hx309_1, hx309_2, hx309_3, hx309_4⟩ := at_T33 (rR3 HO_294001.out).2.2 x7_2 p309 q309
                    cases e309
                    replace p309 := eq_true p309
                    replace q309 := eq_true q309
                    try go_wp2_with (first | ((with_reducible refine gate_dst (N := 8) rfl ?_); (try (refine gate_guard (by rfl) ?_; dsimp only)); refine box_event ?hg (N := 8) ?hd (cs := #[.int .i64 0, .int .i64 0, .int .i64 0, .int .i64 0, .int .i64 0]) (t := 33) ?hr ?_; (case hd => rfl); (case hg => rfl); (case hr => first | (go_simp; done) | (go_simp; rfl)); intro gb310 hg w83 hbox hb; have n0_ := Aside0.mk (Kd.R_below (nr_ HO_5.out) hb); have n1_ := Aside0.mk (Kd.R_below (nr_ HO_6.out) hb); have n2_ := Aside0.mk (Kd.R_below (Kd.R_elderB (nr_ HO_294001.out) gb310 (Nat.le_of_eq hg.symm)) hb); have n3_ := Aside0.mk (blk_below (g := gb293) (o := .cells #[.int .i64 t288, .slice (some ad309) t289.length co9] 25 (0, 0)) (nb_ BK293.out) hb); have n4_ := Aside0.mk (below_step (ne_ HB.out) hb); have n5_ := Aside0.mk (hbox); have n6_ := Aside0.mk ((by rw [hg]; exact (below_size (ne_ HB.out)) : w.heap.size ≤ gb310)); have n7_ := Aside0.mk ((by rw [hg]; exact (below_size (ne_ HB.out)) : w.heap.size ≤ gb310)); have n8_ := Aside0.mk ((by rw [hg]; exact Nat.ne_of_lt (blk_lt (g := gb293) (o := .cells #[.int .i64 t288, .slice (some ad309) t289.length co9] 25 (0, 0)) (nb_ BK293.out)) : gb293 ≠ gb310)); have n9_ := Aside0.mk ((by rw [hg]; exact Nat.ne_of_gt (blk_lt (g := gb293) (o := .cells #[.int .i64 t288, .slice (some ad309) t289.length co9] 25 (0, 0)) (nb_ BK293.out)) : gb310 ≠ gb293)); clear HO_5; clear HO_6; clear HO_294001; clear BK293; clear HB; have HO_5 := n0_; have HO_6 := n1_; have HO_294001 := n2_; have BK293 := n3_; have HB := n4_; have BK310 := n5_; have GW310 := n6_; have GE310 := n7_; have NB293_310 := n8_; have NB310_293 := n9_; clear n0_ n1_ n2_ n3_ n4_ n5_ n6_ n7_ n8_ n9_; clear hb hbox hg; have hnb84 := NB310_293.out; have hnc84 := NB293_310.out; have hcz85_0 : w83.cell? ⟨gb310, 0, none⟩ = some (.int .i64 0) := (bC3 BK310.out 0).trans rfl; have hcz85_1 : w83.cell? ⟨gb310, 1, none⟩ = some (.int .i64 0) := (bC3 BK310.out 1).trans rfl; have hcz85_2 : w83.cell? ⟨gb310, 2, none⟩ = some (.int .i64 0) := (bC3 BK310.out 2).trans rfl; have hcz85_3 : w83.cell? ⟨gb310, 3, none⟩ = some (.int .i64 0) := (bC3 BK310.out 3).trans rfl; have hcz85_4 : w83.cell? ⟨gb310, 4, none⟩ = some (.int .i64 0) := (bC3 BK310.out 4).trans rfl; have hfz85_0 := blk_frozen BK310.out 0; have hfz85_1 := blk_frozen BK310.out 1; have hfz85_2 := blk_frozen BK310.out 2; have hfz85_3 := blk_frozen BK310.out 3; have hfz85_4 := blk_frozen BK310.out 4))
                    have n0_ : Aside0 (Kd.R (Kd.int .i64) 3 (((((w83.setCell ⟨gb310, 0, none⟩ (.int .i64 ((rd_T33 t289 x7_2).f0))).setCell ⟨gb310, 1, none⟩ (.int .i64 ((rd_T33 t289 x7_2).f1))).setCell ⟨gb310, 2, none⟩ (.int .i64 ((rd_T33 t289 x7_2).f2))).setCell ⟨gb310, 3, none⟩ (.int .i64 ((rd_T33 t289 x7_2).f3))).setCell ⟨gb310, 4, none⟩ (.int .i64 ((rd_T33 t289 x7_2).f4))) w.heap.size (fun _ => True) v295 t294) := ⟨by (with_reducible repeat (first | apply rA3 | apply rN3 | apply rD3)); exact Kd.R_mono (rF3 (p := ⟨gb310, 4, none⟩) (rF3 (p := ⟨gb310, 3, none⟩) (rF3 (p := ⟨gb310, 2, none⟩) (rF3 (p := ⟨gb310, 1, none⟩) (rF3 (p := ⟨gb310, 0, none⟩) (Kd.R_types HO_5.out BK310.out (by decide)) (fun _ hk => hk.2) (.int .i64 ((rd_T33 t289 x7_2).f0))) (fun _ hk => hk.2) (.int .i64 ((rd_T33 t289 x7_2).f1))) (fun _ hk => hk.2) (.int .i64 ((rd_T33 t289 x7_2).f2))) (fun _ hk => hk.2) (.int .i64 ((rd_T33 t289 x7_2).f3))) (fun _ hk => hk.2) (.int .i64 ((rd_T33 t289 x7_2).f4))) (fun _ hk => trivial)⟩
                    have n1_ : Aside0 (Kd.R Kd.bool 4 (((((w83.setCell ⟨gb310, 0, none⟩ (.int .i64 ((rd_T33 t289 x7_2).f0))).setCell ⟨gb310, 1, none⟩ (.int .i64 ((rd_T33 t289 x7_2).f1))).setCell ⟨gb310, 2, none⟩ (.int .i64 ((rd_T33 t289 x7_2).f2))).setCell ⟨gb310, 3, none⟩ (.int .i64 ((rd_T33 t289 x7_2).f3))).setCell ⟨gb310, 4, none⟩ (.int .i64 ((rd_T33 t289 x7_2).f4))) w.heap.size (fun _ => True) (.slice (some ⟨go33, 0, none⟩) x6_2.length co33) x6_2) := ⟨by (with_reducible repeat (first | apply rA3 | apply rN3 | apply rD3)); exact Kd.R_mono (rF3 (p := ⟨gb310, 4, none⟩) (rF3 (p := ⟨gb310, 3, none⟩) (rF3 (p := ⟨gb310, 2, none⟩) (rF3 (p := ⟨gb310, 1, none⟩) (rF3 (p := ⟨gb310, 0, none⟩) (Kd.R_types HO_6.out BK310.out (by decide)) (fun _ hk => hk.2) (.int .i64 ((rd_T33 t289 x7_2).f0))) (fun _ hk => hk.2) (.int .i64 ((rd_T33 t289 x7_2).f1))) (fun _ hk => hk.2) (.int .i64 ((rd_T33 t289 x7_2).f2))) (fun _ hk => hk.2) (.int .i64 ((rd_T33 t289 x7_2).f3))) (fun _ hk => hk.2) (.int .i64 ((rd_T33 t289 x7_2).f4))) (fun _ hk => trivial)⟩
                    have n2_ : Aside0 (Kd.R k33 33 (((((w83.setCell ⟨gb310, 0, none⟩ (.int .i64 ((rd_T33 t289 x7_2).f0))).setCell ⟨gb310, 1, none⟩ (.int .i64 ((rd_T33 t289 x7_2).f1))).setCell ⟨gb310, 2, none⟩ (.int .i64 ((rd_T33 t289 x7_2).f2))).setCell ⟨gb310, 3, none⟩ (.int .i64 ((rd_T33 t289 x7_2).f3))).setCell ⟨gb310, 4, none⟩ (.int .i64 ((rd_T33 t289 x7_2).f4))) w.heap.size (fun k_ => k_ ≠ gb310) (.slice (some ad309) t289.length co9) t289) := ⟨by (with_reducible repeat (first | apply rA3 | apply rN3 | apply rD3)); exact Kd.R_mono (rF3 (p := ⟨gb310, 4, none⟩) (rF3 (p := ⟨gb310, 3, none⟩) (rF3 (p := ⟨gb310, 2, none⟩) (rF3 (p := ⟨gb310, 1, none⟩) (rF3 (p := ⟨gb310, 0, none⟩) (Kd.R_mono HO_294001.out (fun k_ hk => (⟨hk, hk.2⟩ : _ ∧ k_ ≠ gb310))) (fun _ hk => hk.2) (.int .i64 ((rd_T33 t289 x7_2).f0))) (fun _ hk => hk.2) (.int .i64 ((rd_T33 t289 x7_2).f1))) (fun _ hk => hk.2) (.int .i64 ((rd_T33 t289 x7_2).f2))) (fun _ hk => hk.2) (.int .i64 ((rd_T33 t289 x7_2).f3))) (fun _ hk => hk.2) (.int .i64 ((rd_T33 t289 x7_2).f4))) (fun _ hk => by first | exact hk.1.2 | trivial | simp_all)⟩
                    have n3_ : Aside0 ((((((w83.setCell ⟨gb310, 0, none⟩ (.int .i64 ((rd_T33 t289 x7_2).f0))).setCell ⟨gb310, 1, none⟩ (.int .i64 ((rd_T33 t289 x7_2).f1))).setCell ⟨gb310, 2, none⟩ (.int .i64 ((rd_T33 t289 x7_2).f2))).setCell ⟨gb310, 3, none⟩ (.int .i64 ((rd_T33 t289 x7_2).f3))).setCell ⟨gb310, 4, none⟩ (.int .i64 ((rd_T33 t289 x7_2).f4))).heap[gb293]? = some (.cells #[.int .i64 t288, .slice (some ad309) t289.length co9] 25 (0, 0))) := ⟨by (with_reducible repeat (first | refine bN3 ?_ _ | refine bD3 ?_ | refine bA3 ?_ _)); refine blk_far ?_ NB293_310.out _; (with_reducible repeat (first | refine bN3 ?_ _ | refine bD3 ?_ | refine bA3 ?_ _)); refine blk_far ?_ NB293_310.out _; (with_reducible repeat (first | refine bN3 ?_ _ | refine bD3 ?_ | refine bA3 ?_ _)); refine blk_far ?_ NB293_310.out _; (with_reducible repeat (first | refine bN3 ?_ _ | refine bD3 ?_ | refine bA3 ?_ _)); refine blk_far ?_ NB293_310.out _; (with_reducible repeat (first | refine bN3 ?_ _ | refine bD3 ?_ | refine bA3 ?_ _)); refine blk_far ?_ NB293_310.out _; (with_reducible repeat (first | refine bN3 ?_ _ | refine bD3 ?_ | refine bA3 ?_ _)); exact BK293.out⟩
                    have n4_ : Aside0 ((((((w83.setCell ⟨gb310, 0, none⟩ (.int .i64 ((rd_T33 t289 x7_2).f0))).setCell ⟨gb310, 1, none⟩ (.int .i64 ((rd_T33 t289 x7_2).f1))).setCell ⟨gb310, 2, none⟩ (.int .i64 ((rd_T33 t289 x7_2).f2))).setCell ⟨gb310, 3, none⟩ (.int .i64 ((rd_T33 t289 x7_2).f3))).setCell ⟨gb310, 4, none⟩ (.int .i64 ((rd_T33 t289 x7_2).f4))).heap[gb310]? = some (.cells #[.int .i64 ((rd_T33 t289 x7_2).f0), .int .i64 ((rd_T33 t289 x7_2).f1), .int .i64 ((rd_T33 t289 x7_2).f2), .int .i64 ((rd_T33 t289 x7_2).f3), .int .i64 ((rd_T33 t289 x7_2).f4)] 33 (0, 0))) := ⟨by (with_reducible repeat (first | refine bN3 ?_ _ | refine bD3 ?_ | refine bA3 ?_ _)); refine blk_put (cs := #[.int .i64 ((rd_T33 t289 x7_2).f0), .int .i64 ((rd_T33 t289 x7_2).f1), .int .i64 ((rd_T33 t289 x7_2).f2), .int .i64 ((rd_T33 t289 x7_2).f3), .int .i64 0]) ?_ 4 _ rfl; (with_reducible repeat (first | refine bN3 ?_ _ | refine bD3 ?_ | refine bA3 ?_ _)); refine blk_put (cs := #[.int .i64 ((rd_T33 t289 x7_2).f0), .int .i64 ((rd_T33 t289 x7_2).f1), .int .i64 ((rd_T33 t289 x7_2).f2), .int .i64 0, .int .i64 0]) ?_ 3 _ rfl; (with_reducible repeat (first | refine bN3 ?_ _ | refine bD3 ?_ | refine bA3 ?_ _)); refine blk_put (cs := #[.int .i64 ((rd_T33 t289 x7_2).f0), .int .i64 ((rd_T33 t289 x7_2).f1), .int .i64 0, .int .i64 0, .int .i64 0]) ?_ 2 _ rfl; (with_reducible repeat (first | refine bN3 ?_ _ | refine bD3 ?_ | refine bA3 ?_ _)); refine blk_put (cs := #[.int .i64 ((rd_T33 t289 x7_2).f0), .int .i64 0, .int .i64 0, .int .i64 0, .int .i64 0]) ?_ 1 _ rfl; (with_reducible repeat (first | refine bN3 ?_ _ | refine bD3 ?_ | refine bA3 ?_ _)); refine blk_put (cs := #[.int .i64 0, .int .i64 0, .int .i64 0, .int .i64 0, .int .i64 0]) ?_ 0 _ rfl; (with_reducible repeat (first | refine bN3 ?_ _ | refine bD3 ?_ | refine bA3 ?_ _)); exact BK310.out⟩
                    have n5_ : Aside0 (Below w.heap.size w (((((w83.setCell ⟨gb310, 0, none⟩ (.int .i64 ((rd_T33 t289 x7_2).f0))).setCell ⟨gb310, 1, none⟩ (.int .i64 ((rd_T33 t289 x7_2).f1))).setCell ⟨gb310, 2, none⟩ (.int .i64 ((rd_T33 t289 x7_2).f2))).setCell ⟨gb310, 3, none⟩ (.int .i64 ((rd_T33 t289 x7_2).f3))).setCell ⟨gb310, 4, none⟩ (.int .i64 ((rd_T33 t289 x7_2).f4)))) := ⟨by repeat (first | (with_reducible first | exact HB.out | apply below_alloc | apply eN3 | apply eD3 | refine bS3 ?_ GE293.out | refine bS3 ?_ GE310.out) | exact HB.out)⟩
                    (try clear HO_5)
                    (try clear HO_6)
                    (try clear HO_294001)
                    (try clear BK293)
                    (try clear BK310)
                    (try clear HB)
                    generalize (((((w83.setCell ⟨gb310, 0, none⟩ (.int .i64 ((rd_T33 t289 x7_2).f0))).setCell ⟨gb310, 1, none⟩ (.int .i64 ((rd_T33 t289 x7_2).f1))).setCell ⟨gb310, 2, none⟩ (.int .i64 ((rd_T33 t289 x7_2).f2))).setCell ⟨gb310, 3, none⟩ (.int .i64 ((rd_T33 t289 x7_2).f3))).setCell ⟨gb310, 4, none⟩ (.int .i64 ((rd_T33 t289 x7_2).f4))) = w86 at n0_ n1_ n2_ n3_ n4_ n5_ ⊢
                    have HO_5 := n0_
                    have HO_6 := n1_
                    have HO_294001 := n2_
                    have BK293 := n3_
                    have BK310 := n4_
                    have HB := n5_
                    clear n0_ n1_ n2_ n3_ n4_ n5_
                    replace HO_5 := Aside0.mk (rD3 HO_5.out)
                    replace HO_6 := Aside0.mk (rD3 HO_6.out)
                    replace HO_294001 := Aside0.mk (rD3 HO_294001.out)
                    replace BK293 := Aside0.mk (bD3 BK293.out)
                    replace BK310 := Aside0.mk (bD3 BK310.out)
                    replace HB := Aside0.mk (eD3 HB.out)
                    obtain ⟨Ao88, co88, eo88⟩ := Kd.R_slice HO_5.out
                    (first | subst eo88 | (injection eo88 with f1_ f2_ f3_; have f4_ := f1_.symm; have f5_ := f3_.symm; clear f1_ f2_ f3_; subst f4_; subst f5_))
                    have p311 : 0 ≤ (((rd_T33 t289 x7_2).f0) : Int) := of_decide_eq_true nx_
                    have q311 : ((rd_T33 t289 x7_2).f0) < (t294.length : Int) := of_decide_eq_true nx_
                    obtain ⟨ad311, e311, hx311_0⟩ := Kd.at_int (rR3 HO_5.out).2.2 ((rd_T33 t289 x7_2).f0) p311 q311
                    cases e311
                    replace p311 := eq_true p311
                    replace q311 := eq_true q311
                    refine start_ (n := 22) (S := fun w' => w'.cell? ⟨gb310, 0, none⟩ = some (.int .i64 ((rd_T33 t289 x7_2).f0)) ∧ w'.cell? ⟨gb310, 1, none⟩ = some (.int .i64 ((rd_T33 t289 x7_2).f1)) ∧ w'.cell? ⟨gb310, 2, none⟩ = some (.int .i64 ((rd_T33 t289 x7_2).f2)) ∧ w'.cell? ⟨gb310, 3, none⟩ = some (.int .i64 ((rd_T33 t289 x7_2).f3)) ∧ w'.cell? ⟨gb310, 4, none⟩ = some (.int .i64 ((rd_T33 t289 x7_2).f4)) ∧ w'.cell? (ad311.add (((rd_T33 t289 x7_2).f0)).toNat) = some (.int .i64 (rd t294 ((rd_T33 t289 x7_2).f0)))) (ds := []) z3_0 (by kernel_rfl) rfl rfl ⟨(bC3 BK310.out 0).trans rfl, (bC3 BK310.out 1).trans rfl, (bC3 BK310.out 2).trans rfl, (bC3 BK310.out 3).trans rfl, (bC3 BK310.out 4).trans rfl, hx311_0⟩ (fun hHeld => ?_); refine with_tabW laws_FnNearAll.tab13 laws_FnNearAll.bits13 (fun HT_ HW_ => ?_)
                    generalize w86.drew = w87 at HO_5 HO_6 HO_294001 BK293 BK310 HB hx311_0 hHeld ⊢
                    refine pu_ 0 55 z3_1 HT_.out ?_
                    refine pu_ 1 56 z3_2 HT_.out ?_
                    refine tk_ 2 57 z3_3 HT_.out HW_.out hHeld ?_
                    refine pu_ 3 58 z3_4 HT_.out ?_
                    refine tk_ 4 59 z3_5 HT_.out HW_.out hHeld ?_
                    refine pu_ 5 60 z3_6 HT_.out ?_
                    refine pu_ 6 61 z3_7 HT_.out ?_
                    refine un_ 7 62 z3_8 HT_.out ?_
                    refine un_ 8 63 z3_9 HT_.out ?_
                    refine un_ 9 64 z3_58 HT_.out ?_
                    refine un_ 10 65 z3_59 HT_.out ?_
                    refine un_ 11 66 z3_60 HT_.out ?_
                    refine un_ 12 67 z3_61 HT_.out ?_
                    refine un_ 13 68 z3_62 HT_.out ?_
                    refine un_ 14 69 z3_63 HT_.out ?_
                    refine un_ 15 70 z3_64 HT_.out ?_
                    refine un_ 16 71 z3_65 HT_.out ?_
                    refine un_ 17 72 z3_18 HT_.out ?_
                    refine un_ 18 73 z3_19 HT_.out ?_
                    refine un_ 19 74 z3_20 HT_.out ?_
                    refine un_ 20 75 z3_21 HT_.out ?_
                    refine pu_ 21 76 z3_22 HT_.out ?_
                    refine done_ (done_of HT_.out (by kernel_rfl)) ?_
                    try go_wp2
                    replace HO_5 := Aside0.mk (rD3 HO_5.out)
                    replace HO_6 := Aside0.mk (rD3 HO_6.out)
                    replace HO_294001 := Aside0.mk (rD3 HO_294001.out)
                    replace BK293 := Aside0.mk (bD3 BK293.out)
                    replace BK310 := Aside0.mk (bD3 BK310.out)
                    replace HB := Aside0.mk (eD3 HB.out)
                    have p320 : 0 ≤ (((rd_T33 t289 x7_2).f1) : Int) := of_decide_eq_true nx_
                    have q320 : ((rd_T33 t289 x7_2).f1) < (x6_2.length : Int) := of_decide_eq_true nx_
                    obtain ⟨ad320, e320, hx320_0⟩ := Kd.at_bool (rR3 HO_6.out).2.2 ((rd_T33 t289 x7_2).f1) p320 q320
                    (try rw [← Nbq79.out] at hx320_0)
                    obtain rfl : (⟨go33, 0, none⟩ : Addr) = ad320 := (by injection e320)
                    (first | simp only [add_plain] at hx320_0 | simp only [add_at] at hx320_0 | simp only [Addr.add, Nat.zero_add] at hx320_0 | skip)
                    replace p320 := eq_true p320
                    replace q320 := eq_true q320
                    have p81 : 0 ≤ (((rd_T33 t289 x7_2).f1) : Int) := of_decide_eq_true nx_
                    have q81 : (((rd_T33 t289 x7_2).f1) : Int) < ((x6_2.length : Int) : Int) := of_decide_eq_true nx_
                    obtain ⟨hx81_0, hf81_0⟩ := Kd.R_celln false HO_6.out (((rd_T33 t289 x7_2).f1) : Int) p81 q81
                    obtain ⟨cy33, hy33_⟩ := Go.Proofs.YtbmoonciggfbpaaX.Kd.R_typ HO_6.out (by omega)
                    have GG33 := Aside0.mk hy33_
                    clear hy33_
                    replace p81 := eq_true p81
                    replace q81 := eq_true q81
                    have HP90 := Kd.R_putn HO_6.out (((rd_T33 t289 x7_2).f1) : Int) true
                    rw [← Ny321.out] at HP90
                    have HQ90 := Aside0.mk HP90
                    clear HP90
                    refine start_ (n := 34) (S := fun w' => w'.cell? ⟨gb310, 0, none⟩ = some (.int .i64 ((rd_T33 t289 x7_2).f0)) ∧ w'.cell? ⟨gb310, 1, none⟩ = some (.int .i64 ((rd_T33 t289 x7_2).f1)) ∧ w'.cell? ⟨gb310, 2, none⟩ = some (.int .i64 ((rd_T33 t289 x7_2).f2)) ∧ w'.cell? ⟨gb310, 3, none⟩ = some (.int .i64 ((rd_T33 t289 x7_2).f3)) ∧ w'.cell? ⟨gb310, 4, none⟩ = some (.int .i64 ((rd_T33 t289 x7_2).f4)) ∧ w'.cell? ⟨go33, (((rd_T33 t289 x7_2).f1)).toNat, none⟩ = some (.bool true)) (ds := [33]) z3_23 (by kernel_rfl) rfl rfl ⟨(bC3 BK310.out 0).trans rfl, (bC3 BK310.out 1).trans rfl, (bC3 BK310.out 2).trans rfl, (bC3 BK310.out 3).trans rfl, (bC3 BK310.out 4).trans rfl, hx320_0⟩ (fun hHeld => ?_); refine with_tabW laws_FnNearAll.tab15 laws_FnNearAll.bits15 (fun HT_ HW_ => ?_)
                    generalize w87.drew = w89 at GG33 HO_5 HO_6 HO_294001 BK293 BK310 HB HQ90 hf81_0 hx320_0 hx81_0 hHeld ⊢
                    refine pu_ 0 77 z3_24 HT_.out ?_
                    refine pu_ 1 78 z3_25 HT_.out ?_
                    refine pu_ 3 80 z3_26 HT_.out ?_
                    refine pu_ 4 81 z3_27 HT_.out ?_
                    refine tk_ 2 79 z3_28 HT_.out HW_.out hHeld ?_
                    refine tk_ 5 82 z3_29 HT_.out HW_.out hHeld ?_
                    refine pu_ 6 83 z3_30 HT_.out ?_
                    refine tk_ 7 84 z3_31 HT_.out HW_.out hHeld ?_
                    refine pu_ 8 85 z3_32 HT_.out ?_
                    refine un_ 9 86 z3_33 HT_.out ?_
                    refine un_ 10 87 z3_34 HT_.out ?_
                    refine un_ 11 88 z3_35 HT_.out ?_
                    refine un_ 12 89 z3_36 HT_.out ?_
                    refine un_ 13 90 z3_37 HT_.out ?_
                    refine un_ 14 91 z3_38 HT_.out ?_
                    refine un_ 15 92 z3_39 HT_.out ?_
                    refine un_ 16 93 z3_40 HT_.out ?_
                    refine un_ 17 94 z3_41 HT_.out ?_
                    refine un_ 18 95 z3_42 HT_.out ?_
                    refine un_ 19 96 z3_43 HT_.out ?_
                    refine un_ 20 97 z3_44 HT_.out ?_
                    refine un_ 21 98 z3_45 HT_.out ?_
                    refine un_ 22 99 z3_46 HT_.out ?_
                    refine un_ 23 100 z3_47 HT_.out ?_
                    refine un_ 24 101 z3_48 HT_.out ?_
                    refine un_ 25 102 z3_49 HT_.out ?_
                    refine un_ 26 103 z3_50 HT_.out ?_
                    refine un_ 27 104 z3_51 HT_.out ?_
                    refine un_ 28 105 z3_52 HT_.out ?_
                    refine un_ 29 106 z3_53 HT_.out ?_
                    refine un_ 30 107 z3_54 HT_.out ?_
                    refine pu_ 31 108 z3_55 HT_.out ?_
                    refine pu_ 32 109 z3_56 HT_.out ?_
                    refine last_ (i := 33) (N := none) z3_57 rfl rfl (one_of HT_.out (by kernel_rfl)) (by decide) (fun K hK => ?_)
                    refine skip_ (w1 := ?_) (by rfl) rfl ?_ ?_
                    rotate_left
                    ·go_simp
                     rfl
                    refine hK.out _ _ ?_
                    clear hK K
                    refine done_ (done_of HT_.out (by kernel_rfl)) ?_
                    try go_wp2
                    (try simp only [← hl6_2])
                    go_roundg k2
                    case measure => have := HJ4.out; have := HK2.out; omega
                    case rel => exact ⟨(y321), (wrap64 (x7_2 + 1)), ns_, H', ⟨by have := HJ4.out; have := HK2.out; omega⟩, ⟨by (try simp only [hl6_2]); (with_reducible repeat (first | apply rA3 | apply rN3 | apply rD3)); exact Kd.R_mono (rF3 (p := ⟨go33, (((rd_T33 t289 x7_2).f1) : Int).toNat, none⟩) (Kd.R_types HO_5.out GG33.out (by decide)) (fun _ hk => hk.2) (.bool true)) (fun _ hk => trivial)⟩, ⟨by (try simp only [hl6_2]); (with_reducible repeat (first | apply rA3 | apply rN3 | apply rD3)); exact HQ90.out⟩, ⟨by (try simp only [hl6_2]); (with_reducible repeat (first | apply rA3 | apply rN3 | apply rD3)); exact Kd.R_mono (rF3 (p := ⟨go33, (((rd_T33 t289 x7_2).f1) : Int).toNat, none⟩) (Kd.R_types HO_294001.out GG33.out (by decide)) (fun _ hk => hk.2) (.bool true)) (fun _ hk => trivial)⟩, ⟨by (try simp only [hl6_2]); (with_reducible repeat (first | refine bN3 ?_ _ | refine bD3 ?_ | refine bA3 ?_ _)); refine blk_far ?_ (by have h_ := Kd.R_ne HO_6.out BK293.out (by decide); intro e_; exact h_ (by rw [e_]; rfl)) _; (with_reducible repeat (first | refine bN3 ?_ _ | refine bD3 ?_ | refine bA3 ?_ _)); exact BK293.out⟩, ⟨by repeat (first | (with_reducible first | exact HB.out | apply below_alloc | apply eN3 | apply eD3 | refine bS3 ?_ GB33.out | refine bS3 ?_ GE293.out | refine bS3 ?_ GE310.out) | exact HB.out)⟩⟩
                   ·replace c80 := Bool.eq_false_iff.mpr c80
                    subst c80
                    have H1 : (laws_FnNearAll.l0 k2 t292 t294 (x6_2.set (((rd_T33 t289 x7_2).f1) : Int).toNat false) (wrap64 (x7_2 + 1)) t288 t289) = some r := by rw [if_neg (show ¬ (false = true) by decide)] at H; exact H
                    clear H
                    have H := H1
                    clear H1
                    obtain ⟨y323, hy323⟩ : ∃ y_ : List Bool, y_ = (x6_2.set (((rd_T33 t289 x7_2).f1) : Int).toNat false) := ⟨_, rfl⟩
                    replace H : (laws_FnNearAll.l0 k2 t292 t294 y323 (wrap64 (x7_2 + 1)) t288 t289) = some r := by first | (rw [hy323]; with_reducible exact H) | (have H2_ := (Option.bind_some _ _).symm.trans H; rw [hy323]; with_reducible exact H2_) | (have H2_ := (Option.bind_some _ _).symm.trans H; with_reducible exact H2_) | with_reducible exact H | (rw [hy323]; exact H) | exact H
                    have Ny323 := Aside0.mk hy323
                    clear hy323
                    have H' := Aside0.mk H
                    clear H
                    have hcz92_0 : wr.cell? ⟨gb293, 0, none⟩ = some (.int .i64 t288) := (bC3 BK293.out 0).trans rfl
                    have hcz92_1 : wr.cell? ⟨gb293, 1, none⟩ = some (.slice Ao9 t289.length co9) := (bC3 BK293.out 1).trans rfl
                    have hfz92_0 := blk_frozen BK293.out 0
                    have hfz92_1 := blk_frozen BK293.out 1
                    have p309 : 0 ≤ (x7_2 : Int) := of_decide_eq_true nx_
                    have q309 : x7_2 < (t289.length : Int) := of_decide_eq_true nx_
                    obtain ⟨ad309, e309, hx309_0, hx309_1, hx309_2, hx309_3, hx309_4⟩ := at_T33 (rR3 HO_294001.out).2.2 x7_2 p309 q309
                    cases e309
                    replace p309 := eq_true p309
                    replace q309 := eq_true q309
                    try go_wp2_with (first | ((with_reducible refine gate_dst (N := 8) rfl ?_); (try (refine gate_guard (by rfl) ?_; dsimp only)); refine box_event ?hg (N := 8) ?hd (cs := #[.int .i64 0, .int .i64 0, .int .i64 0, .int .i64 0, .int .i64 0]) (t := 33) ?hr ?_; (case hd => rfl); (case hg => rfl); (case hr => first | (go_simp; done) | (go_simp; rfl)); intro gb310 hg w93 hbox hb; have n0_ := Aside0.mk (Kd.R_below (nr_ HO_5.out) hb); have n1_ := Aside0.mk (Kd.R_below (nr_ HO_6.out) hb); have n2_ := Aside0.mk (Kd.R_below (Kd.R_elderB (nr_ HO_294001.out) gb310 (Nat.le_of_eq hg.symm)) hb); have n3_ := Aside0.mk (blk_below (g := gb293) (o := .cells #[.int .i64 t288, .slice (some ad309) t289.length co9] 25 (0, 0)) (nb_ BK293.out) hb); have n4_ := Aside0.mk (below_step (ne_ HB.out) hb); have n5_ := Aside0.mk (hbox); have n6_ := Aside0.mk ((by rw [hg]; exact (below_size (ne_ HB.out)) : w.heap.size ≤ gb310)); have n7_ := Aside0.mk ((by rw [hg]; exact (below_size (ne_ HB.out)) : w.heap.size ≤ gb310)); have n8_ := Aside0.mk ((by rw [hg]; exact Nat.ne_of_lt (blk_lt (g := gb293) (o := .cells #[.int .i64 t288, .slice (some ad309) t289.length co9] 25 (0, 0)) (nb_ BK293.out)) : gb293 ≠ gb310)); have n9_ := Aside0.mk ((by rw [hg]; exact Nat.ne_of_gt (blk_lt (g := gb293) (o := .cells #[.int .i64 t288, .slice (some ad309) t289.length co9] 25 (0, 0)) (nb_ BK293.out)) : gb310 ≠ gb293)); clear HO_5; clear HO_6; clear HO_294001; clear BK293; clear HB; have HO_5 := n0_; have HO_6 := n1_; have HO_294001 := n2_; have BK293 := n3_; have HB := n4_; have BK310 := n5_; have GW310 := n6_; have GE310 := n7_; have NB293_310 := n8_; have NB310_293 := n9_; clear n0_ n1_ n2_ n3_ n4_ n5_ n6_ n7_ n8_ n9_; clear hb hbox hg; have hnb94 := NB310_293.out; have hnc94 := NB293_310.out; have hcz95_0 : w93.cell? ⟨gb310, 0, none⟩ = some (.int .i64 0) := (bC3 BK310.out 0).trans rfl; have hcz95_1 : w93.cell? ⟨gb310, 1, none⟩ = some (.int .i64 0) := (bC3 BK310.out 1).trans rfl; have hcz95_2 : w93.cell? ⟨gb310, 2, none⟩ = some (.int .i64 0) := (bC3 BK310.out 2).trans rfl; have hcz95_3 : w93.cell? ⟨gb310, 3, none⟩ = some (.int .i64 0) := (bC3 BK310.out 3).trans rfl; have hcz95_4 : w93.cell? ⟨gb310, 4, none⟩ = some (.int .i64 0) := (bC3 BK310.out 4).trans rfl; have hfz95_0 := blk_frozen BK310.out 0; have hfz95_1 := blk_frozen BK310.out 1; have hfz95_2 := blk_frozen BK310.out 2; have hfz95_3 := blk_frozen BK310.out 3; have hfz95_4 := blk_frozen BK310.out 4))
                    have n0_ : Aside0 (Kd.R (Kd.int .i64) 3 (((((w93.setCell ⟨gb310, 0, none⟩ (.int .i64 ((rd_T33 t289 x7_2).f0))).setCell ⟨gb310, 1, none⟩ (.int .i64 ((rd_T33 t289 x7_2).f1))).setCell ⟨gb310, 2, none⟩ (.int .i64 ((rd_T33 t289 x7_2).f2))).setCell ⟨gb310, 3, none⟩ (.int .i64 ((rd_T33 t289 x7_2).f3))).setCell ⟨gb310, 4, none⟩ (.int .i64 ((rd_T33 t289 x7_2).f4))) w.heap.size (fun _ => True) v295 t294) := ⟨by (with_reducible repeat (first | apply rA3 | apply rN3 | apply rD3)); exact Kd.R_mono (rF3 (p := ⟨gb310, 4, none⟩) (rF3 (p := ⟨gb310, 3, none⟩) (rF3 (p := ⟨gb310, 2, none⟩) (rF3 (p := ⟨gb310, 1, none⟩) (rF3 (p := ⟨gb310, 0, none⟩) (Kd.R_types HO_5.out BK310.out (by decide)) (fun _ hk => hk.2) (.int .i64 ((rd_T33 t289 x7_2).f0))) (fun _ hk => hk.2) (.int .i64 ((rd_T33 t289 x7_2).f1))) (fun _ hk => hk.2) (.int .i64 ((rd_T33 t289 x7_2).f2))) (fun _ hk => hk.2) (.int .i64 ((rd_T33 t289 x7_2).f3))) (fun _ hk => hk.2) (.int .i64 ((rd_T33 t289 x7_2).f4))) (fun _ hk => trivial)⟩
                    have n1_ : Aside0 (Kd.R Kd.bool 4 (((((w93.setCell ⟨gb310, 0, none⟩ (.int .i64 ((rd_T33 t289 x7_2).f0))).setCell ⟨gb310, 1, none⟩ (.int .i64 ((rd_T33 t289 x7_2).f1))).setCell ⟨gb310, 2, none⟩ (.int .i64 ((rd_T33 t289 x7_2).f2))).setCell ⟨gb310, 3, none⟩ (.int .i64 ((rd_T33 t289 x7_2).f3))).setCell ⟨gb310, 4, none⟩ (.int .i64 ((rd_T33 t289 x7_2).f4))) w.heap.size (fun _ => True) (.slice (some ⟨go33, 0, none⟩) x6_2.length co33) x6_2) := ⟨by (with_reducible repeat (first | apply rA3 | apply rN3 | apply rD3)); exact Kd.R_mono (rF3 (p := ⟨gb310, 4, none⟩) (rF3 (p := ⟨gb310, 3, none⟩) (rF3 (p := ⟨gb310, 2, none⟩) (rF3 (p := ⟨gb310, 1, none⟩) (rF3 (p := ⟨gb310, 0, none⟩) (Kd.R_types HO_6.out BK310.out (by decide)) (fun _ hk => hk.2) (.int .i64 ((rd_T33 t289 x7_2).f0))) (fun _ hk => hk.2) (.int .i64 ((rd_T33 t289 x7_2).f1))) (fun _ hk => hk.2) (.int .i64 ((rd_T33 t289 x7_2).f2))) (fun _ hk => hk.2) (.int .i64 ((rd_T33 t289 x7_2).f3))) (fun _ hk => hk.2) (.int .i64 ((rd_T33 t289 x7_2).f4))) (fun _ hk => trivial)⟩
                    have n2_ : Aside0 (Kd.R k33 33 (((((w93.setCell ⟨gb310, 0, none⟩ (.int .i64 ((rd_T33 t289 x7_2).f0))).setCell ⟨gb310, 1, none⟩ (.int .i64 ((rd_T33 t289 x7_2).f1))).setCell ⟨gb310, 2, none⟩ (.int .i64 ((rd_T33 t289 x7_2).f2))).setCell ⟨gb310, 3, none⟩ (.int .i64 ((rd_T33 t289 x7_2).f3))).setCell ⟨gb310, 4, none⟩ (.int .i64 ((rd_T33 t289 x7_2).f4))) w.heap.size (fun k_ => k_ ≠ gb310) (.slice (some ad309) t289.length co9) t289) := ⟨by (with_reducible repeat (first | apply rA3 | apply rN3 | apply rD3)); exact Kd.R_mono (rF3 (p := ⟨gb310, 4, none⟩) (rF3 (p := ⟨gb310, 3, none⟩) (rF3 (p := ⟨gb310, 2, none⟩) (rF3 (p := ⟨gb310, 1, none⟩) (rF3 (p := ⟨gb310, 0, none⟩) (Kd.R_mono HO_294001.out (fun k_ hk => (⟨hk, hk.2⟩ : _ ∧ k_ ≠ gb310))) (fun _ hk => hk.2) (.int .i64 ((rd_T33 t289 x7_2).f0))) (fun _ hk => hk.2) (.int .i64 ((rd_T33 t289 x7_2).f1))) (fun _ hk => hk.2) (.int .i64 ((rd_T33 t289 x7_2).f2))) (fun _ hk => hk.2) (.int .i64 ((rd_T33 t289 x7_2).f3))) (fun _ hk => hk.2) (.int .i64 ((rd_T33 t289 x7_2).f4))) (fun _ hk => by first | exact hk.1.2 | trivial | simp_all)⟩
                    have n3_ : Aside0 ((((((w93.setCell ⟨gb310, 0, none⟩ (.int .i64 ((rd_T33 t289 x7_2).f0))).setCell ⟨gb310, 1, none⟩ (.int .i64 ((rd_T33 t289 x7_2).f1))).setCell ⟨gb310, 2, none⟩ (.int .i64 ((rd_T33 t289 x7_2).f2))).setCell ⟨gb310, 3, none⟩ (.int .i64 ((rd_T33 t289 x7_2).f3))).setCell ⟨gb310, 4, none⟩ (.int .i64 ((rd_T33 t289 x7_2).f4))).heap[gb293]? = some (.cells #[.int .i64 t288, .slice (some ad309) t289.length co9] 25 (0, 0))) := ⟨by (with_reducible repeat (first | refine bN3 ?_ _ | refine bD3 ?_ | refine bA3 ?_ _)); refine blk_far ?_ NB293_310.out _; (with_reducible repeat (first | refine bN3 ?_ _ | refine bD3 ?_ | refine bA3 ?_ _)); refine blk_far ?_ NB293_310.out _; (with_reducible repeat (first | refine bN3 ?_ _ | refine bD3 ?_ | refine bA3 ?_ _)); refine blk_far ?_ NB293_310.out _; (with_reducible repeat (first | refine bN3 ?_ _ | refine bD3 ?_ | refine bA3 ?_ _)); refine blk_far ?_ NB293_310.out _; (with_reducible repeat (first | refine bN3 ?_ _ | refine bD3 ?_ | refine bA3 ?_ _)); refine blk_far ?_ NB293_310.out _; (with_reducible repeat (first | refine bN3 ?_ _ | refine bD3 ?_ | refine bA3 ?_ _)); exact BK293.out⟩
                    have n4_ : Aside0 ((((((w93.setCell ⟨gb310, 0, none⟩ (.int .i64 ((rd_T33 t289 x7_2).f0))).setCell ⟨gb310, 1, none⟩ (.int .i64 ((rd_T33 t289 x7_2).f1))).setCell ⟨gb310, 2, none⟩ (.int .i64 ((rd_T33 t289 x7_2).f2))).setCell ⟨gb310, 3, none⟩ (.int .i64 ((rd_T33 t289 x7_2).f3))).setCell ⟨gb310, 4, none⟩ (.int .i64 ((rd_T33 t289 x7_2).f4))).heap[gb310]? = some (.cells #[.int .i64 ((rd_T33 t289 x7_2).f0), .int .i64 ((rd_T33 t289 x7_2).f1), .int .i64 ((rd_T33 t289 x7_2).f2), .int .i64 ((rd_T33 t289 x7_2).f3), .int .i64 ((rd_T33 t289 x7_2).f4)] 33 (0, 0))) := ⟨by (with_reducible repeat (first | refine bN3 ?_ _ | refine bD3 ?_ | refine bA3 ?_ _)); refine blk_put (cs := #[.int .i64 ((rd_T33 t289 x7_2).f0), .int .i64 ((rd_T33 t289 x7_2).f1), .int .i64 ((rd_T33 t289 x7_2).f2), .int .i64 ((rd_T33 t289 x7_2).f3), .int .i64 0]) ?_ 4 _ rfl; (with_reducible repeat (first | refine bN3 ?_ _ | refine bD3 ?_ | refine bA3 ?_ _)); refine blk_put (cs := #[.int .i64 ((rd_T33 t289 x7_2).f0), .int .i64 ((rd_T33 t289 x7_2).f1), .int .i64 ((rd_T33 t289 x7_2).f2), .int .i64 0, .int .i64 0]) ?_ 3 _ rfl; (with_reducible repeat (first | refine bN3 ?_ _ | refine bD3 ?_ | refine bA3 ?_ _)); refine blk_put (cs := #[.int .i64 ((rd_T33 t289 x7_2).f0), .int .i64 ((rd_T33 t289 x7_2).f1), .int .i64 0, .int .i64 0, .int .i64 0]) ?_ 2 _ rfl; (with_reducible repeat (first | refine bN3 ?_ _ | refine bD3 ?_ | refine bA3 ?_ _)); refine blk_put (cs := #[.int .i64 ((rd_T33 t289 x7_2).f0), .int .i64 0, .int .i64 0, .int .i64 0, .int .i64 0]) ?_ 1 _ rfl; (with_reducible repeat (first | refine bN3 ?_ _ | refine bD3 ?_ | refine bA3 ?_ _)); refine blk_put (cs := #[.int .i64 0, .int .i64 0, .int .i64 0, .int .i64 0, .int .i64 0]) ?_ 0 _ rfl; (with_reducible repeat (first | refine bN3 ?_ _ | refine bD3 ?_ | refine bA3 ?_ _)); exact BK310.out⟩
                    have n5_ : Aside0 (Below w.heap.size w (((((w93.setCell ⟨gb310, 0, none⟩ (.int .i64 ((rd_T33 t289 x7_2).f0))).setCell ⟨gb310, 1, none⟩ (.int .i64 ((rd_T33 t289 x7_2).f1))).setCell ⟨gb310, 2, none⟩ (.int .i64 ((rd_T33 t289 x7_2).f2))).setCell ⟨gb310, 3, none⟩ (.int .i64 ((rd_T33 t289 x7_2).f3))).setCell ⟨gb310, 4, none⟩ (.int .i64 ((rd_T33 t289 x7_2).f4)))) := ⟨by repeat (first | (with_reducible first | exact HB.out | apply below_alloc | apply eN3 | apply eD3 | refine bS3 ?_ GE293.out | refine bS3 ?_ GE310.out) | exact HB.out)⟩
                    (try clear HO_5)
                    (try clear HO_6)
                    (try clear HO_294001)
                    (try clear BK293)
                    (try clear BK310)
                    (try clear HB)
                    generalize (((((w93.setCell ⟨gb310, 0, none⟩ (.int .i64 ((rd_T33 t289 x7_2).f0))).setCell ⟨gb310, 1, none⟩ (.int .i64 ((rd_T33 t289 x7_2).f1))).setCell ⟨gb310, 2, none⟩ (.int .i64 ((rd_T33 t289 x7_2).f2))).setCell ⟨gb310, 3, none⟩ (.int .i64 ((rd_T33 t289 x7_2).f3))).setCell ⟨gb310, 4, none⟩ (.int .i64 ((rd_T33 t289 x7_2).f4))) = w96 at n0_ n1_ n2_ n3_ n4_ n5_ ⊢
                    have HO_5 := n0_
                    have HO_6 := n1_
                    have HO_294001 := n2_
                    have BK293 := n3_
                    have BK310 := n4_
                    have HB := n5_
                    clear n0_ n1_ n2_ n3_ n4_ n5_
                    replace HO_5 := Aside0.mk (rD3 HO_5.out)
                    replace HO_6 := Aside0.mk (rD3 HO_6.out)
                    replace HO_294001 := Aside0.mk (rD3 HO_294001.out)
                    replace BK293 := Aside0.mk (bD3 BK293.out)
                    replace BK310 := Aside0.mk (bD3 BK310.out)
                    replace HB := Aside0.mk (eD3 HB.out)
                    obtain ⟨Ao98, co98, eo98⟩ := Kd.R_slice HO_5.out
                    (first | subst eo98 | (injection eo98 with f1_ f2_ f3_; have f4_ := f1_.symm; have f5_ := f3_.symm; clear f1_ f2_ f3_; subst f4_; subst f5_))
                    have p311 : 0 ≤ (((rd_T33 t289 x7_2).f0) : Int) := of_decide_eq_true nx_
                    have q311 : ((rd_T33 t289 x7_2).f0) < (t294.length : Int) := of_decide_eq_true nx_
                    obtain ⟨ad311, e311, hx311_0⟩ := Kd.at_int (rR3 HO_5.out).2.2 ((rd_T33 t289 x7_2).f0) p311 q311
                    cases e311
                    replace p311 := eq_true p311
                    replace q311 := eq_true q311
                    refine start_ (n := 22) (S := fun w' => w'.cell? ⟨gb310, 0, none⟩ = some (.int .i64 ((rd_T33 t289 x7_2).f0)) ∧ w'.cell? ⟨gb310, 1, none⟩ = some (.int .i64 ((rd_T33 t289 x7_2).f1)) ∧ w'.cell? ⟨gb310, 2, none⟩ = some (.int .i64 ((rd_T33 t289 x7_2).f2)) ∧ w'.cell? ⟨gb310, 3, none⟩ = some (.int .i64 ((rd_T33 t289 x7_2).f3)) ∧ w'.cell? ⟨gb310, 4, none⟩ = some (.int .i64 ((rd_T33 t289 x7_2).f4)) ∧ w'.cell? (ad311.add (((rd_T33 t289 x7_2).f0)).toNat) = some (.int .i64 (rd t294 ((rd_T33 t289 x7_2).f0)))) (ds := []) z3_0 (by kernel_rfl) rfl rfl ⟨(bC3 BK310.out 0).trans rfl, (bC3 BK310.out 1).trans rfl, (bC3 BK310.out 2).trans rfl, (bC3 BK310.out 3).trans rfl, (bC3 BK310.out 4).trans rfl, hx311_0⟩ (fun hHeld => ?_); refine with_tabW laws_FnNearAll.tab13 laws_FnNearAll.bits13 (fun HT_ HW_ => ?_)
                    generalize w96.drew = w97 at HO_5 HO_6 HO_294001 BK293 BK310 HB hx311_0 hHeld ⊢
                    refine pu_ 0 55 z3_1 HT_.out ?_
                    refine pu_ 1 56 z3_2 HT_.out ?_
                    refine tk_ 2 57 z3_3 HT_.out HW_.out hHeld ?_
                    refine pu_ 3 58 z3_4 HT_.out ?_
                    refine tk_ 4 59 z3_5 HT_.out HW_.out hHeld ?_
                    refine pu_ 5 60 z3_6 HT_.out ?_
                    refine pu_ 6 61 z3_7 HT_.out ?_
                    refine un_ 7 62 z3_8 HT_.out ?_
                    refine un_ 8 63 z3_9 HT_.out ?_
                    refine un_ 9 64 z3_58 HT_.out ?_
                    refine un_ 10 65 z3_59 HT_.out ?_
                    refine un_ 11 66 z3_60 HT_.out ?_
                    refine un_ 12 67 z3_61 HT_.out ?_
                    refine un_ 13 68 z3_62 HT_.out ?_
                    refine un_ 14 69 z3_63 HT_.out ?_
                    refine un_ 15 70 z3_64 HT_.out ?_
                    refine un_ 16 71 z3_65 HT_.out ?_
                    refine un_ 17 72 z3_18 HT_.out ?_
                    refine un_ 18 73 z3_19 HT_.out ?_
                    refine un_ 19 74 z3_20 HT_.out ?_
                    refine un_ 20 75 z3_21 HT_.out ?_
                    refine pu_ 21 76 z3_22 HT_.out ?_
                    refine done_ (done_of HT_.out (by kernel_rfl)) ?_
                    try go_wp2
                    replace HO_5 := Aside0.mk (rD3 HO_5.out)
                    replace HO_6 := Aside0.mk (rD3 HO_6.out)
                    replace HO_294001 := Aside0.mk (rD3 HO_294001.out)
                    replace BK293 := Aside0.mk (bD3 BK293.out)
                    replace BK310 := Aside0.mk (bD3 BK310.out)
                    replace HB := Aside0.mk (eD3 HB.out)
                    have p320 : 0 ≤ (((rd_T33 t289 x7_2).f1) : Int) := of_decide_eq_true nx_
                    have q320 : ((rd_T33 t289 x7_2).f1) < (x6_2.length : Int) := of_decide_eq_true nx_
                    obtain ⟨ad320, e320, hx320_0⟩ := Kd.at_bool (rR3 HO_6.out).2.2 ((rd_T33 t289 x7_2).f1) p320 q320
                    (try rw [← Nbq79.out] at hx320_0)
                    obtain rfl : (⟨go33, 0, none⟩ : Addr) = ad320 := (by injection e320)
                    (first | simp only [add_plain] at hx320_0 | simp only [add_at] at hx320_0 | simp only [Addr.add, Nat.zero_add] at hx320_0 | skip)
                    replace p320 := eq_true p320
                    replace q320 := eq_true q320
                    have p322 : 0 ≤ (((rd_T33 t289 x7_2).f0) : Int) := of_decide_eq_true nx_
                    have q322 : ((rd_T33 t289 x7_2).f0) < (t294.length : Int) := of_decide_eq_true nx_
                    obtain ⟨ad322, e322, hx322_0⟩ := Kd.at_int (rR3 HO_5.out).2.2 ((rd_T33 t289 x7_2).f0) p322 q322
                    obtain rfl : ad311 = ad322 := (by injection e322)
                    replace p322 := eq_true p322
                    replace q322 := eq_true q322
                    have p91 : 0 ≤ (((rd_T33 t289 x7_2).f1) : Int) := of_decide_eq_true nx_
                    have q91 : (((rd_T33 t289 x7_2).f1) : Int) < ((x6_2.length : Int) : Int) := of_decide_eq_true nx_
                    obtain ⟨hx91_0, hf91_0⟩ := Kd.R_celln false HO_6.out (((rd_T33 t289 x7_2).f1) : Int) p91 q91
                    obtain ⟨cy33, hy33_⟩ := Go.Proofs.YtbmoonciggfbpaaX.Kd.R_typ HO_6.out (by omega)
                    have GG33 := Aside0.mk hy33_
                    clear hy33_
                    replace p91 := eq_true p91
                    replace q91 := eq_true q91
                    have HP100 := Kd.R_putn HO_6.out (((rd_T33 t289 x7_2).f1) : Int) false
                    rw [← Ny323.out] at HP100
                    have HQ100 := Aside0.mk HP100
                    clear HP100
                    refine start_ (n := 34) (S := fun w' => w'.cell? ⟨gb310, 0, none⟩ = some (.int .i64 ((rd_T33 t289 x7_2).f0)) ∧ w'.cell? ⟨gb310, 1, none⟩ = some (.int .i64 ((rd_T33 t289 x7_2).f1)) ∧ w'.cell? ⟨gb310, 2, none⟩ = some (.int .i64 ((rd_T33 t289 x7_2).f2)) ∧ w'.cell? ⟨gb310, 3, none⟩ = some (.int .i64 ((rd_T33 t289 x7_2).f3)) ∧ w'.cell? ⟨gb310, 4, none⟩ = some (.int .i64 ((rd_T33 t289 x7_2).f4)) ∧ w'.cell? ⟨go33, (((rd_T33 t289 x7_2).f1)).toNat, none⟩ = some (.bool false) ∧ w'.cell? (ad311.add (((rd_T33 t289 x7_2).f0)).toNat) = some (.int .i64 (rd t294 ((rd_T33 t289 x7_2).f0)))) (ds := [33]) z3_23 (by kernel_rfl) rfl rfl ⟨(bC3 BK310.out 0).trans rfl, (bC3 BK310.out 1).trans rfl, (bC3 BK310.out 2).trans rfl, (bC3 BK310.out 3).trans rfl, (bC3 BK310.out 4).trans rfl, hx320_0, hx322_0⟩ (fun hHeld => ?_); refine with_tabW laws_FnNearAll.tab15 laws_FnNearAll.bits15 (fun HT_ HW_ => ?_)
                    generalize w97.drew = w99 at GG33 HO_5 HO_6 HO_294001 BK293 BK310 HB HQ100 hf91_0 hx320_0 hx322_0 hx91_0 hHeld ⊢
                    refine pu_ 0 77 z3_24 HT_.out ?_
                    refine pu_ 1 78 z3_25 HT_.out ?_
                    refine pu_ 3 80 z3_26 HT_.out ?_
                    refine pu_ 4 81 z3_27 HT_.out ?_
                    refine tk_ 2 79 z3_28 HT_.out HW_.out hHeld ?_
                    refine tk_ 5 82 z3_29 HT_.out HW_.out hHeld ?_
                    refine pu_ 6 83 z3_30 HT_.out ?_
                    refine tk_ 7 84 z3_31 HT_.out HW_.out hHeld ?_
                    refine pu_ 8 85 z3_32 HT_.out ?_
                    refine pu_ 9 86 z3_33 HT_.out ?_
                    refine pu_ 10 87 z3_34 HT_.out ?_
                    refine tk_ 11 88 z3_35 HT_.out HW_.out hHeld ?_
                    refine pu_ 12 89 z3_36 HT_.out ?_
                    refine tk_ 13 90 z3_37 HT_.out HW_.out hHeld ?_
                    refine pu_ 14 91 z3_38 HT_.out ?_
                    refine pu_ 15 92 z3_39 HT_.out ?_
                    refine un_ 16 93 z3_40 HT_.out ?_
                    refine un_ 17 94 z3_41 HT_.out ?_
                    refine un_ 18 95 z3_42 HT_.out ?_
                    refine un_ 19 96 z3_43 HT_.out ?_
                    refine un_ 20 97 z3_44 HT_.out ?_
                    refine un_ 21 98 z3_45 HT_.out ?_
                    refine un_ 22 99 z3_46 HT_.out ?_
                    refine un_ 23 100 z3_47 HT_.out ?_
                    refine un_ 24 101 z3_48 HT_.out ?_
                    refine un_ 25 102 z3_49 HT_.out ?_
                    refine un_ 26 103 z3_50 HT_.out ?_
                    refine un_ 27 104 z3_51 HT_.out ?_
                    refine un_ 28 105 z3_52 HT_.out ?_
                    refine un_ 29 106 z3_53 HT_.out ?_
                    refine pu_ 30 107 z3_54 HT_.out ?_
                    refine pu_ 31 108 z3_55 HT_.out ?_
                    refine pu_ 32 109 z3_56 HT_.out ?_
                    refine last_ (i := 33) (N := none) z3_57 rfl rfl (one_of HT_.out (by kernel_rfl)) (by decide) (fun K hK => ?_)
                    refine skip_ (w1 := ?_) (by rfl) rfl ?_ ?_
                    rotate_left
                    ·go_simp
                     rfl
                    refine hK.out _ _ ?_
                    clear hK K
                    refine done_ (done_of HT_.out (by kernel_rfl)) ?_
                    try go_wp2
                    (try simp only [← hl6_2])
                    go_roundg k2
                    case measure => have := HJ4.out; have := HK2.out; omega
                    case rel => exact ⟨(y323), (wrap64 (x7_2 + 1)), ns_, H', ⟨by have := HJ4.out; have := HK2.out; omega⟩, ⟨by (try simp only [hl6_2]); (with_reducible repeat (first | apply rA3 | apply rN3 | apply rD3)); exact Kd.R_mono (rF3 (p := ⟨go33, (((rd_T33 t289 x7_2).f1) : Int).toNat, none⟩) (Kd.R_types HO_5.out GG33.out (by decide)) (fun _ hk => hk.2) (.bool false)) (fun _ hk => trivial)⟩, ⟨by (try simp only [hl6_2]); (with_reducible repeat (first | apply rA3 | apply rN3 | apply rD3)); exact HQ100.out⟩, ⟨by (try simp only [hl6_2]); (with_reducible repeat (first | apply rA3 | apply rN3 | apply rD3)); exact Kd.R_mono (rF3 (p := ⟨go33, (((rd_T33 t289 x7_2).f1) : Int).toNat, none⟩) (Kd.R_types HO_294001.out GG33.out (by decide)) (fun _ hk => hk.2) (.bool false)) (fun _ hk => trivial)⟩, ⟨by (try simp only [hl6_2]); (with_reducible repeat (first | refine bN3 ?_ _ | refine bD3 ?_ | refine bA3 ?_ _)); refine blk_far ?_ (by have h_ := Kd.R_ne HO_6.out BK293.out (by decide); intro e_; exact h_ (by rw [e_]; rfl)) _; (with_reducible repeat (first | refine bN3 ?_ _ | refine bD3 ?_ | refine bA3 ?_ _)); exact BK293.out⟩, ⟨by repeat (first | (with_reducible first | exact HB.out | apply below_alloc | apply eN3 | apply eD3 | refine bS3 ?_ GB33.out | refine bS3 ?_ GE293.out | refine bS3 ?_ GE310.out) | exact HB.out)⟩⟩
                  ·rw [if_neg c78] at H
                   exact absurd H (by simp)
                 ·rw [if_neg c77] at H
                  exact absurd H (by simp)
               ·rw [if_neg c42] at H
                exact absurd H (by simp)
              ·rw [if_neg c41] at H
               exact absurd H (by simp)
             ·rw [if_neg c40] at H
              exact absurd H (by simp)
            ·rw [if_neg c39] at H
             have c39b0 : decide (x7_2 < (t289.length : Int)) = false := decide_eq_false c39
             clear c39
             have H' := Aside0.mk H
             clear H
             have hcz101_0 : wr.cell? ⟨gb293, 0, none⟩ = some (.int .i64 t288) := (bC3 BK293.out 0).trans rfl
             have hcz101_1 : wr.cell? ⟨gb293, 1, none⟩ = some (.slice Ao9 t289.length co9) := (bC3 BK293.out 1).trans rfl
             have hfz101_0 := blk_frozen BK293.out 0
             have hfz101_1 := blk_frozen BK293.out 1
             go_wp2
             go_loopg [9] k2 (fun kq v9 w' => ∃ (x9_3 : Int), v9 = .int .i64 x9_3 ∧ Aside0 (laws_FnNearAll.l1 kq t292 t294 x6_2 x9_3 t288 t289 = some r) ∧ Aside0 (kq ≤ k2) ∧ Aside0 (Kd.R (Kd.int .i64) 3 w' w.heap.size (fun _ => True) v295 t294) ∧ Aside0 (Kd.R Kd.bool 4 w' w.heap.size (fun _ => True) (.slice (some ⟨go33, 0, none⟩) x6_2.length co33) x6_2) ∧ Aside0 (Kd.R k33 33 w' w.heap.size (fun _ => True) (.slice Ao9 t289.length co9) t289) ∧ Aside0 (w'.heap[gb293]? = some (.cells #[.int .i64 t288, (.slice Ao9 t289.length co9)] 25 (0, 0))) ∧ Aside0 (Below w.heap.size w w'))
             case atStart => exact ⟨(0), ns_, H', ⟨Nat.le_refl _⟩, ⟨by (try simp only [hl6_2]); (with_reducible repeat (first | apply rA3 | apply rN3 | apply rD3)); exact HO_5.out⟩, ⟨by (try simp only [hl6_2]); (with_reducible repeat (first | apply rA3 | apply rN3 | apply rD3)); exact HO_6.out⟩, ⟨by (try simp only [hl6_2]); (with_reducible repeat (first | apply rA3 | apply rN3 | apply rD3)); exact HO_294001.out⟩, ⟨by (try simp only [hl6_2]); (with_reducible repeat (first | refine bN3 ?_ _ | refine bD3 ?_ | refine bA3 ?_ _)); exact BK293.out⟩, ⟨by repeat (first | (with_reducible first | exact HB.out | apply below_alloc | apply eN3 | apply eD3 | refine bS3 ?_ GE293.out) | exact HB.out)⟩⟩
             case round =>
              clear H'
              try clear p2
              try clear c3
              try clear p3
              try clear q3
              try clear hx3
              try clear c4
              try clear p6
              try clear c7
              try clear q7
              try clear c8
              try clear c9
              try clear p9
              try clear q9
              try clear hx9
              try clear hf9
              try clear p30
              try clear q30
              try clear hx30
              try clear p31
              try clear q31
              try clear hx31
              try clear p32
              try clear q32
              try clear hx32
              try clear c39
              try clear c39b0
              try clear c40
              try clear c41
              try clear c42
              try clear p64
              try clear c77
              try clear c78
              try clear q79
              try clear c80
              try clear p91
              try clear q91
              try clear hx91
              try clear hf91
              try clear c94
              try clear hcz101_0
              try clear hcz101_1
              try clear hcz92_0
              try clear hcz92_1
              try clear hcz95_0
              try clear hcz95_1
              try clear hcz95_2
              try clear hcz95_3
              try clear hcz95_4
              try clear hfz101_0
              try clear hfz101_1
              try clear hfz92_0
              try clear hfz92_1
              try clear hfz95_0
              try clear hfz95_1
              try clear hfz95_2
              try clear hfz95_3
              try clear hfz95_4
              try clear hx309_0
              try clear hx309_1
              try clear hx309_2
              try clear hx309_3
              try clear hx309_4
              try clear hx311_0
              try clear hx320_0
              try clear hx322_0
              try clear hx91_0
              try clear p309
              try clear p311
              try clear p320
              try clear p322
              try clear p91
              try clear q309
              try clear q311
              try clear q320
              try clear q322
              try clear q91
              obtain ⟨x9_3, rfl, HA, HK3, HO_5, HO_6, HO_294001, BK293, HB⟩ := hrel
              cases gk with
              | zero => exact absurd HA.out (by simp [laws_FnNearAll.l1])
              | succ k3 =>
               have H := HA.out
               clear HA
               simp only [laws_FnNearAll.l1] at H
               by_cases c102 : x9_3 < t288
               ·rw [if_pos c102] at H
                have c102b0 : decide (x9_3 < t288) = true := decide_eq_true c102
                clear c102
                by_cases c103 : 0 ≤ x9_3
                ·rw [if_pos c103] at H
                 have c103b0 : decide (0 ≤ x9_3) = true := decide_eq_true c103
                 clear c103
                 by_cases c104 : x9_3 < (t294.length : Int)
                 ·rw [if_pos c104] at H
                  have c104b0 : decide (x9_3 < (t294.length : Int)) = true := decide_eq_true c104
                  clear c104
                  by_cases c105 : (rd t294 x9_3) < 0
                  ·rw [if_pos c105] at H
                   have c105b0 : decide ((rd t294 x9_3) < 0) = true := decide_eq_true c105
                   clear c105
                   obtain rfl := Option.some.inj H
                   have hcz106_0 : wr.cell? ⟨gb293, 0, none⟩ = some (.int .i64 t288) := (bC3 BK293.out 0).trans rfl
                   have hcz106_1 : wr.cell? ⟨gb293, 1, none⟩ = some (.slice Ao9 t289.length co9) := (bC3 BK293.out 1).trans rfl
                   have hfz106_0 := blk_frozen BK293.out 0
                   have hfz106_1 := blk_frozen BK293.out 1
                   obtain ⟨Ao107, co107, eo107⟩ := Kd.R_slice HO_5.out
                   subst eo107
                   have p324 : 0 ≤ (x9_3 : Int) := of_decide_eq_true nx_
                   have q324 : x9_3 < (t294.length : Int) := of_decide_eq_true nx_
                   obtain ⟨ad324, e324, hx324_0⟩ := Kd.at_int (rR3 HO_5.out).2.2 x9_3 p324 q324
                   cases e324
                   replace p324 := eq_true p324
                   replace q324 := eq_true q324
                   go_wp2
                   go_ret
                   exact ⟨by first | rfl | (simp [errW_none, errW_some] <;> rfl) | (simp [*, errW_none, errW_some] <;> rfl), by repeat (first | (with_reducible first | exact HB.out | apply below_alloc | apply eN3 | apply eD3 | refine bS3 ?_ GE293.out) | exact HB.out)⟩
                  ·rw [if_neg c105] at H
                   have c105b0 : decide ((rd t294 x9_3) < 0) = false := decide_eq_false c105
                   clear c105
                   by_cases c108 : (rd t294 x9_3) > 99999
                   ·rw [if_pos c108] at H
                    have c108b0 : decide (99999 < (rd t294 x9_3)) = true := decide_eq_true c108
                    clear c108
                    obtain rfl := Option.some.inj H
                    have hcz109_0 : wr.cell? ⟨gb293, 0, none⟩ = some (.int .i64 t288) := (bC3 BK293.out 0).trans rfl
                    have hcz109_1 : wr.cell? ⟨gb293, 1, none⟩ = some (.slice Ao9 t289.length co9) := (bC3 BK293.out 1).trans rfl
                    have hfz109_0 := blk_frozen BK293.out 0
                    have hfz109_1 := blk_frozen BK293.out 1
                    obtain ⟨Ao110, co110, eo110⟩ := Kd.R_slice HO_5.out
                    subst eo110
                    have p324 : 0 ≤ (x9_3 : Int) := of_decide_eq_true nx_
                    have q324 : x9_3 < (t294.length : Int) := of_decide_eq_true nx_
                    obtain ⟨ad324, e324, hx324_0⟩ := Kd.at_int (rR3 HO_5.out).2.2 x9_3 p324 q324
                    cases e324
                    replace p324 := eq_true p324
                    replace q324 := eq_true q324
                    have p325 : 0 ≤ (x9_3 : Int) := of_decide_eq_true nx_
                    have q325 : x9_3 < (t294.length : Int) := of_decide_eq_true nx_
                    obtain ⟨ad325, e325, hx325_0⟩ := Kd.at_int (rR3 HO_5.out).2.2 x9_3 p325 q325
                    obtain rfl : ad324 = ad325 := (by injection e325)
                    replace p325 := eq_true p325
                    replace q325 := eq_true q325
                    go_wp2
                    go_ret
                    exact ⟨by first | rfl | (simp [errW_none, errW_some] <;> rfl) | (simp [*, errW_none, errW_some] <;> rfl), by repeat (first | (with_reducible first | exact HB.out | apply below_alloc | apply eN3 | apply eD3 | refine bS3 ?_ GE293.out) | exact HB.out)⟩
                   ·rw [if_neg c108] at H
                    have c108b0 : decide (99999 < (rd t294 x9_3)) = false := decide_eq_false c108
                    clear c108
                    by_cases c111 : (rd t294 x9_3) < 99999
                    ·rw [if_pos c111] at H
                     have c111b0 : decide ((rd t294 x9_3) < 99999) = true := decide_eq_true c111
                     clear c111
                     by_cases c112 : x9_3 < (x6_2.length : Int)
                     ·rw [if_pos c112] at H
                      have c112b0 : decide (x9_3 < (x6_2.length : Int)) = true := decide_eq_true c112
                      clear c112
                      obtain ⟨bq113, hbq113⟩ : ∃ b_ : Bool, b_ = (rdOf false x6_2 x9_3) := ⟨_, rfl⟩
                      replace H : (if bq113 = true then (laws_FnNearAll.l1 k3 t292 t294 x6_2 (wrap64 (x9_3 + 1)) t288 t289) else (some false)) = some r := by rw [← hbq113] at H; exact H
                      have Nbq113 := Aside0.mk hbq113
                      clear hbq113
                      by_cases c114 : bq113 = true
                      ·subst c114
                       have H1 : (laws_FnNearAll.l1 k3 t292 t294 x6_2 (wrap64 (x9_3 + 1)) t288 t289) = some r := by rw [if_pos rfl] at H; exact H
                       clear H
                       have H := H1
                       clear H1
                       have H' := Aside0.mk H
                       clear H
                       have hcz115_0 : wr.cell? ⟨gb293, 0, none⟩ = some (.int .i64 t288) := (bC3 BK293.out 0).trans rfl
                       have hcz115_1 : wr.cell? ⟨gb293, 1, none⟩ = some (.slice Ao9 t289.length co9) := (bC3 BK293.out 1).trans rfl
                       have hfz115_0 := blk_frozen BK293.out 0
                       have hfz115_1 := blk_frozen BK293.out 1
                       obtain ⟨Ao116, co116, eo116⟩ := Kd.R_slice HO_5.out
                       subst eo116
                       have p324 : 0 ≤ (x9_3 : Int) := of_decide_eq_true nx_
                       have q324 : x9_3 < (t294.length : Int) := of_decide_eq_true nx_
                       obtain ⟨ad324, e324, hx324_0⟩ := Kd.at_int (rR3 HO_5.out).2.2 x9_3 p324 q324
                       cases e324
                       replace p324 := eq_true p324
                       replace q324 := eq_true q324
                       have p325 : 0 ≤ (x9_3 : Int) := of_decide_eq_true nx_
                       have q325 : x9_3 < (t294.length : Int) := of_decide_eq_true nx_
                       obtain ⟨ad325, e325, hx325_0⟩ := Kd.at_int (rR3 HO_5.out).2.2 x9_3 p325 q325
                       obtain rfl : ad324 = ad325 := (by injection e325)
                       replace p325 := eq_true p325
                       replace q325 := eq_true q325
                       have p326 : 0 ≤ (x9_3 : Int) := of_decide_eq_true nx_
                       have q326 : x9_3 < (t294.length : Int) := of_decide_eq_true nx_
                       obtain ⟨ad326, e326, hx326_0⟩ := Kd.at_int (rR3 HO_5.out).2.2 x9_3 p326 q326
                       obtain rfl : ad324 = ad326 := (by injection e326)
                       replace p326 := eq_true p326
                       replace q326 := eq_true q326
                       have p327 : 0 ≤ (x9_3 : Int) := of_decide_eq_true nx_
                       have q327 : x9_3 < (x6_2.length : Int) := of_decide_eq_true nx_
                       obtain ⟨ad327, e327, hx327_0⟩ := Kd.at_bool (rR3 HO_6.out).2.2 x9_3 p327 q327
                       (try rw [← Nbq113.out] at hx327_0)
                       obtain rfl : (⟨go33, 0, none⟩ : Addr) = ad327 := (by injection e327)
                       (first | simp only [add_plain] at hx327_0 | simp only [add_at] at hx327_0 | simp only [Addr.add, Nat.zero_add] at hx327_0 | skip)
                       replace p327 := eq_true p327
                       replace q327 := eq_true q327
                       go_wp2
                       go_roundg k3
                       case measure => have := HJ4.out; have := HK2.out; have := HK3.out; omega
                       case rel => exact ⟨(wrap64 (x9_3 + 1)), ns_, H', ⟨by have := HJ4.out; have := HK2.out; have := HK3.out; omega⟩, ⟨by (try simp only [hl6_2]); (with_reducible repeat (first | apply rA3 | apply rN3 | apply rD3)); exact HO_5.out⟩, ⟨by (try simp only [hl6_2]); (with_reducible repeat (first | apply rA3 | apply rN3 | apply rD3)); exact HO_6.out⟩, ⟨by (try simp only [hl6_2]); (with_reducible repeat (first | apply rA3 | apply rN3 | apply rD3)); exact HO_294001.out⟩, ⟨by (try simp only [hl6_2]); (with_reducible repeat (first | refine bN3 ?_ _ | refine bD3 ?_ | refine bA3 ?_ _)); exact BK293.out⟩, ⟨by repeat (first | (with_reducible first | exact HB.out | apply below_alloc | apply eN3 | apply eD3 | refine bS3 ?_ GE293.out) | exact HB.out)⟩⟩
                      ·replace c114 := Bool.eq_false_iff.mpr c114
                       subst c114
                       have H1 : (some false) = some r := by rw [if_neg (show ¬ (false = true) by decide)] at H; exact H
                       clear H
                       have H := H1
                       clear H1
                       obtain rfl := Option.some.inj H
                       have hcz117_0 : wr.cell? ⟨gb293, 0, none⟩ = some (.int .i64 t288) := (bC3 BK293.out 0).trans rfl
                       have hcz117_1 : wr.cell? ⟨gb293, 1, none⟩ = some (.slice Ao9 t289.length co9) := (bC3 BK293.out 1).trans rfl
                       have hfz117_0 := blk_frozen BK293.out 0
                       have hfz117_1 := blk_frozen BK293.out 1
                       obtain ⟨Ao118, co118, eo118⟩ := Kd.R_slice HO_5.out
                       subst eo118
                       have p324 : 0 ≤ (x9_3 : Int) := of_decide_eq_true nx_
                       have q324 : x9_3 < (t294.length : Int) := of_decide_eq_true nx_
                       obtain ⟨ad324, e324, hx324_0⟩ := Kd.at_int (rR3 HO_5.out).2.2 x9_3 p324 q324
                       cases e324
                       replace p324 := eq_true p324
                       replace q324 := eq_true q324
                       have p325 : 0 ≤ (x9_3 : Int) := of_decide_eq_true nx_
                       have q325 : x9_3 < (t294.length : Int) := of_decide_eq_true nx_
                       obtain ⟨ad325, e325, hx325_0⟩ := Kd.at_int (rR3 HO_5.out).2.2 x9_3 p325 q325
                       obtain rfl : ad324 = ad325 := (by injection e325)
                       replace p325 := eq_true p325
                       replace q325 := eq_true q325
                       have p326 : 0 ≤ (x9_3 : Int) := of_decide_eq_true nx_
                       have q326 : x9_3 < (t294.length : Int) := of_decide_eq_true nx_
                       obtain ⟨ad326, e326, hx326_0⟩ := Kd.at_int (rR3 HO_5.out).2.2 x9_3 p326 q326
                       obtain rfl : ad324 = ad326 := (by injection e326)
                       replace p326 := eq_true p326
                       replace q326 := eq_true q326
                       have p327 : 0 ≤ (x9_3 : Int) := of_decide_eq_true nx_
                       have q327 : x9_3 < (x6_2.length : Int) := of_decide_eq_true nx_
                       obtain ⟨ad327, e327, hx327_0⟩ := Kd.at_bool (rR3 HO_6.out).2.2 x9_3 p327 q327
                       (try rw [← Nbq113.out] at hx327_0)
                       obtain rfl : (⟨go33, 0, none⟩ : Addr) = ad327 := (by injection e327)
                       (first | simp only [add_plain] at hx327_0 | simp only [add_at] at hx327_0 | simp only [Addr.add, Nat.zero_add] at hx327_0 | skip)
                       replace p327 := eq_true p327
                       replace q327 := eq_true q327
                       go_wp2
                       go_ret
                       exact ⟨by first | rfl | (simp [errW_none, errW_some] <;> rfl) | (simp [*, errW_none, errW_some] <;> rfl), by repeat (first | (with_reducible first | exact HB.out | apply below_alloc | apply eN3 | apply eD3 | refine bS3 ?_ GE293.out) | exact HB.out)⟩
                     ·rw [if_neg c112] at H
                      exact absurd H (by simp)
                    ·rw [if_neg c111] at H
                     have c111b0 : decide ((rd t294 x9_3) < 99999) = false := decide_eq_false c111
                     clear c111
                     have H' := Aside0.mk H
                     clear H
                     have hcz119_0 : wr.cell? ⟨gb293, 0, none⟩ = some (.int .i64 t288) := (bC3 BK293.out 0).trans rfl
                     have hcz119_1 : wr.cell? ⟨gb293, 1, none⟩ = some (.slice Ao9 t289.length co9) := (bC3 BK293.out 1).trans rfl
                     have hfz119_0 := blk_frozen BK293.out 0
                     have hfz119_1 := blk_frozen BK293.out 1
                     obtain ⟨Ao120, co120, eo120⟩ := Kd.R_slice HO_5.out
                     subst eo120
                     have p324 : 0 ≤ (x9_3 : Int) := of_decide_eq_true nx_
                     have q324 : x9_3 < (t294.length : Int) := of_decide_eq_true nx_
                     obtain ⟨ad324, e324, hx324_0⟩ := Kd.at_int (rR3 HO_5.out).2.2 x9_3 p324 q324
                     cases e324
                     replace p324 := eq_true p324
                     replace q324 := eq_true q324
                     have p325 : 0 ≤ (x9_3 : Int) := of_decide_eq_true nx_
                     have q325 : x9_3 < (t294.length : Int) := of_decide_eq_true nx_
                     obtain ⟨ad325, e325, hx325_0⟩ := Kd.at_int (rR3 HO_5.out).2.2 x9_3 p325 q325
                     obtain rfl : ad324 = ad325 := (by injection e325)
                     replace p325 := eq_true p325
                     replace q325 := eq_true q325
                     have p326 : 0 ≤ (x9_3 : Int) := of_decide_eq_true nx_
                     have q326 : x9_3 < (t294.length : Int) := of_decide_eq_true nx_
                     obtain ⟨ad326, e326, hx326_0⟩ := Kd.at_int (rR3 HO_5.out).2.2 x9_3 p326 q326
                     obtain rfl : ad324 = ad326 := (by injection e326)
                     replace p326 := eq_true p326
                     replace q326 := eq_true q326
                     go_wp2
                     go_roundg k3
                     case measure => have := HJ4.out; have := HK2.out; have := HK3.out; omega
                     case rel => exact ⟨(wrap64 (x9_3 + 1)), ns_, H', ⟨by have := HJ4.out; have := HK2.out; have := HK3.out; omega⟩, ⟨by (try simp only [hl6_2]); (with_reducible repeat (first | apply rA3 | apply rN3 | apply rD3)); exact HO_5.out⟩, ⟨by (try simp only [hl6_2]); (with_reducible repeat (first | apply rA3 | apply rN3 | apply rD3)); exact HO_6.out⟩, ⟨by (try simp only [hl6_2]); (with_reducible repeat (first | apply rA3 | apply rN3 | apply rD3)); exact HO_294001.out⟩, ⟨by (try simp only [hl6_2]); (with_reducible repeat (first | refine bN3 ?_ _ | refine bD3 ?_ | refine bA3 ?_ _)); exact BK293.out⟩, ⟨by repeat (first | (with_reducible first | exact HB.out | apply below_alloc | apply eN3 | apply eD3 | refine bS3 ?_ GE293.out) | exact HB.out)⟩⟩
                 ·rw [if_neg c104] at H
                  exact absurd H (by simp)
                ·rw [if_neg c103] at H
                 exact absurd H (by simp)
               ·rw [if_neg c102] at H
                have c102b0 : decide (x9_3 < t288) = false := decide_eq_false c102
                clear c102
                by_cases c121 : 0 ≤ t292
                ·rw [if_pos c121] at H
                 have c121b0 : decide (0 ≤ t292) = true := decide_eq_true c121
                 clear c121
                 by_cases c122 : t292 < (t294.length : Int)
                 ·rw [if_pos c122] at H
                  have c122b0 : decide (t292 < (t294.length : Int)) = true := decide_eq_true c122
                  clear c122
                  by_cases c123 : (rd t294 t292) = 0
                  ·rw [if_pos c123] at H
                   have c123b0 : ((rd t294 t292) == 0) = true := beq_iff_eq.mpr c123
                   have c123b1 : ((rd t294 t292) != 0) = false := bne_eq_false_iff_eq.mpr c123
                   clear c123
                   obtain rfl := Option.some.inj H
                   have hcz124_0 : wr.cell? ⟨gb293, 0, none⟩ = some (.int .i64 t288) := (bC3 BK293.out 0).trans rfl
                   have hcz124_1 : wr.cell? ⟨gb293, 1, none⟩ = some (.slice Ao9 t289.length co9) := (bC3 BK293.out 1).trans rfl
                   have hfz124_0 := blk_frozen BK293.out 0
                   have hfz124_1 := blk_frozen BK293.out 1
                   obtain ⟨Ao125, co125, eo125⟩ := Kd.R_slice HO_5.out
                   subst eo125
                   have p328 : 0 ≤ (t292 : Int) := of_decide_eq_true nx_
                   have q328 : t292 < (t294.length : Int) := of_decide_eq_true nx_
                   obtain ⟨ad328, e328, hx328_0⟩ := Kd.at_int (rR3 HO_5.out).2.2 t292 p328 q328
                   cases e328
                   replace p328 := eq_true p328
                   replace q328 := eq_true q328
                   go_wp2
                   go_ret
                   exact ⟨by first | rfl | (simp [errW_none, errW_some] <;> rfl) | (simp [*, errW_none, errW_some] <;> rfl), by repeat (first | (with_reducible first | exact HB.out | apply below_alloc | apply eN3 | apply eD3 | refine bS3 ?_ GE293.out) | exact HB.out)⟩
                  ·rw [if_neg c123] at H
                   have c123b0 : ((rd t294 t292) == 0) = false := beq_eq_false_iff_ne.mpr c123
                   have c123b1 : ((rd t294 t292) != 0) = true := bne_iff_ne.mpr c123
                   obtain rfl := Option.some.inj H
                   have hcz126_0 : wr.cell? ⟨gb293, 0, none⟩ = some (.int .i64 t288) := (bC3 BK293.out 0).trans rfl
                   have hcz126_1 : wr.cell? ⟨gb293, 1, none⟩ = some (.slice Ao9 t289.length co9) := (bC3 BK293.out 1).trans rfl
                   have hfz126_0 := blk_frozen BK293.out 0
                   have hfz126_1 := blk_frozen BK293.out 1
                   obtain ⟨Ao127, co127, eo127⟩ := Kd.R_slice HO_5.out
                   subst eo127
                   have p328 : 0 ≤ (t292 : Int) := of_decide_eq_true nx_
                   have q328 : t292 < (t294.length : Int) := of_decide_eq_true nx_
                   obtain ⟨ad328, e328, hx328_0⟩ := Kd.at_int (rR3 HO_5.out).2.2 t292 p328 q328
                   cases e328
                   replace p328 := eq_true p328
                   replace q328 := eq_true q328
                   go_wp2
                   go_ret
                   exact ⟨by first | rfl | (simp [errW_none, errW_some] <;> rfl) | (simp [*, errW_none, errW_some] <;> rfl), by repeat (first | (with_reducible first | exact HB.out | apply below_alloc | apply eN3 | apply eD3 | refine bS3 ?_ GE293.out) | exact HB.out)⟩
                 ·rw [if_neg c122] at H
                  exact absurd H (by simp)
                ·rw [if_neg c121] at H
                 exact absurd H (by simp)
         ·rw [if_neg c32] at H
          exact absurd H (by simp)
        ·rw [if_neg c31] at H
         exact absurd H (by simp)
       ·rw [if_neg c30] at H
        exact absurd H (by simp)
      ·rw [if_neg c29] at H
       exact absurd H (by simp)

/-- THE ONE PURE STATEMENT of laws_FnNearAll: yours. -/
def laws_FnNearAll.Pure : Prop := ∀ (l0 : List Int), l0.length ≤ maxLen → l0.length * 1 ≤ 140737488351232 → (∀ x ∈ l0, (Lit.int .u8 x).wf = true) → ∃ k, laws_FnNearAll.f k l0 = some true
theorem laws_FnNearAll.walk (P : laws_FnNearAll.Pure) (a0 : Option Addr) (len0 cap0 : Nat) (z0 : List Int) (w : World) (w0 : (a0 = none ∧ len0 = 0 ∧ cap0 = 0 ∧ z0 = []) ∨ ∃ x, a0 = some x ∧ len0 ≤ cap0 ∧ cap0 ≤ maxLen ∧ z0.length = cap0 ∧ (∀ i, i < z0.length → w.cell? (x.add i) = some (.int .u8 (z0.getD i 0))) ∧ ∀ n ∈ z0, (Lit.int .u8 n).wf = true) (y0 : len0 * 1 ≤ 140737488351232) :
    Calls Try.prog 3 #[.slice a0 len0 cap0] w fun e w' => e = .returned (.bool true) ∧ Below w.heap.size w w' := by
  obtain ⟨l0, rfl, hr0, hm0, hw0, hc0⟩ := ReadsInt.ofRowC w0
  obtain ⟨k, h⟩ := P l0 hm0 y0 hw0
  refine (laws_FnNearAll.calls k _ _ l0 true w (Kd.C_of_reads (d := (0 : Int)) (h1 := fun _ => rfl) hr0) hc0 h).mono ?_
  rintro e w' ⟨rfl, hd⟩
  exact ⟨rfl, hd⟩

end Go.Proofs.Ytbmoonciggfbpaa.Print
