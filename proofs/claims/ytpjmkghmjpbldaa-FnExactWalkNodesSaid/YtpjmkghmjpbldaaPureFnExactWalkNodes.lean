/- For every net and row of arcs: what FnExactWalkNodes asks holds. No condition beyond those that the statement has. -/
import Derived.Test.YtpjmkghmjpbldaaPrintF14
import Derived.Test.YtpjmkghmjpbldaaY
import Derived.Test.YtpjmkghmjpbldaaMArcs
import Derived.Test.YtpjmkghmjpbldaaMInts
import Derived.Test.YtpjmkghmjpbldaaMMark
import Derived.Test.YtpjmkghmjpbldaaMWalk2
set_option linter.unusedVariables false
namespace Go.Proofs.Ytpjmkghmjpbldaa.Pure
open Go.RowKit Go.Proofs.Ytpjmkghmjpbldaa.Print Go.Proofs.YtpjmkghmjpbldaaW.PrintWords Go.Proofs.YtpjmkghmjpbldaaW.PrintLast Go.Proofs.YtpjmkghmjpbldaaY Go.Proofs.Ytpjmkghmjpbldaa.M
theorem FnExactWalkNodes : laws_FnExactWalkNodes.Pure := by
  intro n l w _ hm _ _ _
  refine Ev.rounds (g := fun k => laws_FnExactWalkNodes.f k n l w) ?_
  unfold laws_FnExactWalkNodes.f
  refine Ev.ite (fun _ => Ev.now _) (fun hw => ?_)
  obtain ⟨r, hr, _, hs⟩ := szN_eq n l hm
  refine Ev.bnd0 hr (Ev.ite (fun _ => Ev.now _) (fun hn => ?_))
  have hl : l.length ≤ 1048576 := by omega
  have hl2 : (l.map convA).length ≤ 1000000000000 := by rw [List.length_map]; omega
  have hl3 : (l.map convA).length ≤ 1048576 := by rw [List.length_map]; omega
  have hw2 : w.length ≤ 1000000000000 := by omega
  have ht := toNet_ev n l (by omega)
  have hi := toI_ev w (by omega)
  have hs := snodesV_ev n _ w hl2 hw2
  have hv := inodesV_ev n _ w hl2 hw2
  have hnl : (nodesV n (l.map convA) w).length ≤ 1000000000 := by
    unfold nodesV
    split
    · simp [nodes, tos]; omega
    · simp
  have he := eqI_ev (nodesV n (l.map convA) w) (by omega)
  refine Ev.bnd ht (Ev.bnd hi (Ev.bnd hs (Ev.bnd ht (Ev.bnd hi (Ev.bnd hv (Ev.bnd he (Ev.pos rfl (Ev.bnd ht (Ev.bnd (eqNet_ev n _ hl2) (Ev.pos rfl (Ev.bnd hi (Ev.bnd (eqI_ev w hw2) (Ev.pos rfl (Ev.bnd (markN_ev n 1 _ (by omega) (by omega) hl2) (Ev.bnd (mark_ev (1 + 5 * ((l.map convA).length : Int)) w (by omega) (by omega) hw2) (Ev.neg (by omega) (Ev.bnd he ?_)))))))))))))))))
  have hh := held_ev 1 (nodesV n (l.map convA) w).length (by omega) (by omega) (by omega)
  exact Ev.step (fun k => laws_FnExactWalkNodes.j0.eq_2 _ _ _ _ _ _ _) (Ev.neg (by simp) (Ev.bnd (mark_ev 1 _ (by omega) (by omega) (by omega)) (Ev.bnd hh (Ev.neg (by omega) (Ev.pos rfl (Ev.bnd ht (Ev.bnd hi (Ev.bnd hv (Ev.bnd he (Ev.pos rfl (Ev.bnd hh (Ev.neg (by omega) (Ev.pos rfl (Ev.now _))))))))))))))
end Go.Proofs.Ytpjmkghmjpbldaa.Pure
