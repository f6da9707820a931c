/- For every net and row of arcs: what FnExactWalkCost asks holds. No condition beyond those that the statement has. -/
import Derived.Test.YtpjmkghmjpbldaaPrintF12
import Derived.Test.YtpjmkghmjpbldaaY
import Derived.Test.YtpjmkghmjpbldaaMArcs
import Derived.Test.YtpjmkghmjpbldaaMWalk2
set_option linter.unusedVariables false
namespace Go.Proofs.Ytpjmkghmjpbldaa.Pure
open Go.RowKit Go.Proofs.Ytpjmkghmjpbldaa.Print Go.Proofs.YtpjmkghmjpbldaaW.PrintWords Go.Proofs.YtpjmkghmjpbldaaW.PrintLast Go.Proofs.YtpjmkghmjpbldaaY Go.Proofs.Ytpjmkghmjpbldaa.M
theorem FnExactWalkCost : laws_FnExactWalkCost.Pure := by
  intro n l w _ hm _ _ _
  refine Ev.rounds (g := fun k => laws_FnExactWalkCost.f k n l w) ?_
  unfold laws_FnExactWalkCost.f
  refine Ev.ite (fun _ => Ev.now _) (fun hw => ?_)
  obtain ⟨r, hr, _, hs⟩ := szN_eq n l hm
  refine Ev.bnd0 hr (Ev.ite (fun _ => Ev.now _) (fun hn => ?_))
  have hl : l.length ≤ 1048576 := by omega
  have hl2 : (l.map convA).length ≤ 1000000000000 := by rw [List.length_map]; omega
  have hw2 : w.length ≤ 1000000000000 := by omega
  have ht := toNet_ev n l (by omega)
  have hi := toI_ev w (by omega)
  exact Ev.bnd ht (Ev.bnd hi (Ev.bnd (scostV_ev n _ w hl2 hw2) (Ev.bnd ht (Ev.bnd hi (Ev.bnd (icostV_ev n _ w hl2 hw2) (Ev.pos rfl (Ev.bnd ht (Ev.bnd (eqNet_ev n _ hl2) (Ev.pos rfl (Ev.bnd hi (Ev.bnd (eqI_ev w hw2) (Ev.pos rfl (Ev.now _)))))))))))))
end Go.Proofs.Ytpjmkghmjpbldaa.Pure
