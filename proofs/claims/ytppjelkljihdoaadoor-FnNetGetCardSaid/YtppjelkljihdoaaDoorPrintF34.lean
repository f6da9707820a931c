-- Made by this session's own program (wip/patch_print.py, over the kit's print). Lean checks it.
import Derived.Test.YtppjelkljihdoaaDoorPrint0
import Derived.Test.YtppjelkljihdoaaDoorV
import Derived.Test.YtppjelkljihdoaaDoorSh
import Derived.Shelf.Strings.SplitShaped
namespace Go.Proofs.YtppjelkljihdoaaDoor.Print
open Go.RowKit Go.Proofs.YtppjelkljihdoaaDoorW.PrintWords Go.Proofs.YtppjelkljihdoaaDoorW.PrintLast Go.Proofs.YtppjelkljihdoaaDoorW.PrintMore Go.Proofs.YtppjelkljihdoaaDoorX
attribute [local go_sem] max2_int min2_int max_two min_two max_three min_three max_four min_four   -- for this text's walks alone
set_option linter.unusedVariables false
set_option linter.unusedSimpArgs false

/-! ### strings_Split: function 34 -/
/-- strings.Split at a separator that is not empty. -/
def strings_Split.f (a0 a1 : ByteArray) : Option (List ByteArray) := if a0.size < 4294967281 then (if 1 ≤ a1.size then some (Lib.splitB a1 0 (Lib.countB a0 a1) a0) else none) else none
theorem sp_reps (w : World) (b : Nat) (ok : Nat → Prop) (l : List ByteArray) : Reps (Kd.string.M w b ok) 1 l (l.map Value.string) := by
  refine ⟨by simp, fun j p hj => ?_⟩
  show ((l.map Value.string).drop (j * 1)).take 1 = [.string p]
  obtain ⟨h1, h2⟩ := List.getElem?_eq_some_iff.1 hj
  rw [Nat.mul_one, List.drop_eq_getElem_cons (by simpa using h1)]
  simp [h2]
theorem strings_Split.calls (a0 a1 : ByteArray) (r : List ByteArray) (w : World) (h : strings_Split.f a0 a1 = some r) (hV : Aside0 (VarsOk w) := by first | with_reducible assumption | exact vof_ (by assumption) (ne_ (Aside0.out (by assumption)))) :
    Calls Tryd.prog 34 #[.string a0, .string a1] w fun e w' => ∃ v0_ : Value, e = .returned (v0_) ∧ Kd.R Kd.string 9 w' w.heap.size (fun _ => True) v0_ r ∧ Below w.heap.size w w' := by
  unfold strings_Split.f at h
  split at h
  · rename_i h1
    split at h
    · rename_i h2
      obtain rfl := Option.some.inj h
      obtain ⟨m, hm⟩ := hV.out.1
      have hl := Lib.splitB_all a1 h2 0 _ a0 rfl
      have hcb := Lib.countB_le a1 h2 _ a0 (Nat.le_refl _)
      refine (Tryd.strings_Split a0 a1 m w h1 hm h2).mono ?_
      rintro e w' ⟨rfl, rfl⟩
      refine ⟨_, rfl, ⟨fun _ _ => trivial, _, ?_, sp_reps _ _ _ _⟩, (Below.refl _ _).alloc (Nat.le_refl _) _⟩
      have := ownsR_lit (base := w.heap.size) (e := 9) (size := 1) w ((Lib.splitB a1 0 (Lib.countB a0 a1) a0).map Value.string).toArray (Lib.countB a0 a1 + 1) (Nat.le_refl _) (by unfold maxLen; omega) (by simp [hl])
      rw [hl]
      show ownsR _ _ 9 1 _ _ _
      simpa using this
    · cases h
  · cases h

end Go.Proofs.YtppjelkljihdoaaDoor.Print
