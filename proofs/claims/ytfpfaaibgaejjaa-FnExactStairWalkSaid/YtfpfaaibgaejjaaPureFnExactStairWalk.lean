/- For every three numbers: what FnExactStairWalk asks holds. No condition beyond those that the statement has. -/
import Derived.Test.YtfpfaaibgaejjaaPrintF3
import Derived.Test.YtfpfaaibgaejjaaY
import Derived.Test.YtfpfaaibgaejjaaMSteps
import Derived.Test.YtfpfaaibgaejjaaMMarkS
set_option linter.unusedVariables false
namespace Go.Proofs.Ytfpfaaibgaejjaa.Pure
open Go.RowKit Go.Proofs.Ytfpfaaibgaejjaa.Print Go.Proofs.YtfpfaaibgaejjaaW.PrintWords Go.Proofs.YtfpfaaibgaejjaaW.PrintLast Go.Proofs.YtfpfaaibgaejjaaY Go.Proofs.Ytfpfaaibgaejjaa.M
theorem FnExactStairWalk : laws_FnExactStairWalk.Pure := by
  intro long a every _ _ _
  refine Ev.rounds (g := fun k => laws_FnExactStairWalk.f k long a every) ?_
  unfold laws_FnExactStairWalk.f
  have hd : (walkV long a every).length ≤ 12 := by
    unfold walkV
    split
    · rename_i h; exact (wkl_spec long every h.1 h.2.1 h.2.2.2.2.1 h.2.2.2.2.2 12 a h.2.2.1).1
    · simp
  have hi := iwalk_ev long a every
  have hs := swalk_ev long a every
  generalize walkV long a every = d at hd hi hs
  have he := eqS_ev d (by omega)
  have hh := heldS_ev 1 d.length (by omega) (by omega) (by omega)
  refine Ev.bnd hs (Ev.bnd hi (Ev.bnd he (Ev.pos rfl (Ev.bnd (markS_ev 1 d (by omega) (by omega) (by omega)) (Ev.bnd hh (Ev.neg (by omega) (Ev.pos rfl (Ev.bnd hi (Ev.bnd he (Ev.pos rfl (Ev.bnd hh (Ev.neg (by omega) (Ev.pos rfl (Ev.now _))))))))))))))
end Go.Proofs.Ytfpfaaibgaejjaa.Pure
