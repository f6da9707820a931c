/- Pieces of walks. -/
import Derived.Test.YtpjmkghmjpbldaaY
import Derived.Test.YtpjmkghmjpbldaaMNet
import Derived.Test.YtpjmkghmjpbldaaMWalk

set_option linter.unusedVariables false
set_option linter.unusedSimpArgs false
namespace Go.Proofs.Ytpjmkghmjpbldaa.M
open Go.RowKit Go.Proofs.Ytpjmkghmjpbldaa.Print Go.Proofs.YtpjmkghmjpbldaaW.PrintWords Go.Proofs.YtpjmkghmjpbldaaW.PrintLast Go.Proofs.YtpjmkghmjpbldaaY
theorem take_at (w : List Int) (c j : Nat) (h : j < c) : (w.take c).getD j 0 = w.getD j 0 := by
  rw [List.getD_eq_getElem?_getD, List.getD_eq_getElem?_getD, List.getElem?_take_of_lt h]
theorem drop_at (w : List Int) (c j : Nat) : (w.drop c).getD j 0 = w.getD (c + j) 0 := by
  rw [List.getD_eq_getElem?_getD, List.getD_eq_getElem?_getD, List.getElem?_drop]
theorem WalkP.take {l : List Ar} {w : List Int} (h : WalkP l w) (c : Nat) : WalkP l (w.take c) := by
  refine ⟨fun i hi => ?_, by rw [List.length_take]; have := h.2; omega⟩
  rw [List.length_take] at hi
  have hg := h.1 i (by omega)
  unfold GoodW
  rw [take_at w c i (by omega), take_at w c (i - 1) (by omega)]
  exact hg
theorem WalkP.drop {l : List Ar} {w : List Int} (h : WalkP l w) (c : Nat) : WalkP l (w.drop c) := by
  refine ⟨fun i hi => ?_, by rw [List.length_drop]; have := h.2; omega⟩
  rw [List.length_drop] at hi
  have hg := h.1 (c + i) (by omega)
  unfold GoodW
  rw [drop_at, drop_at]
  refine ⟨hg.1, fun hi0 => ?_⟩
  have := hg.2 (by omega)
  rwa [show c + i - 1 = c + (i - 1) by omega] at this
end Go.Proofs.Ytpjmkghmjpbldaa.M
