/- For every net and node: what FnExactNearTree asks holds. No condition beyond those that the statement has. -/
import Derived.Test.YtbmoonciggfbpaaPrintF10
import Derived.Test.YtbmoonciggfbpaaY
import Derived.Test.YtbmoonciggfbpaaMArcs
import Derived.Test.YtbmoonciggfbpaaMInts
import Derived.Test.YtbmoonciggfbpaaMMark
import Derived.Test.YtbmoonciggfbpaaMNear7
set_option linter.unusedVariables false
namespace Go.Proofs.Ytbmoonciggfbpaa.Pure
open Go.RowKit Go.Proofs.Ytbmoonciggfbpaa.Print Go.Proofs.YtbmoonciggfbpaaW.PrintWords Go.Proofs.YtbmoonciggfbpaaW.PrintLast Go.Proofs.YtbmoonciggfbpaaY Go.Proofs.Ytbmoonciggfbpaa.M
theorem FnExactNearTree : laws_FnExactNearTree.Pure := by
  intro n l v _ hm _ _
  refine Ev.rounds (g := fun k => laws_FnExactNearTree.f k n l v) ?_
  unfold laws_FnExactNearTree.f
  obtain ⟨r, hr, _, hs⟩ := szN_eq n l hm
  refine Ev.bnd0 hr (Ev.ite (fun _ => Ev.now _) (fun hn => ?_))
  have hl : l.length ≤ 1048576 := by omega
  have hl2 : (l.map convA).length ≤ 1000000000000 := by rw [List.length_map]; omega
  have hl3 : (l.map convA).length ≤ 1000000000 := by rw [List.length_map]; omega
  have ht := toNet_ev n l (by omega)
  obtain ⟨d, hi, hs, hd, _, _⟩ := nearTree_ev n (l.map convA) v hl3
  have he := eqI_ev d (by omega)
  refine Ev.bnd ht (Ev.bnd hs (Ev.bnd ht (Ev.bnd hi (Ev.bnd he (Ev.pos rfl (Ev.bnd ht (Ev.bnd (eqNet_ev n _ hl2) (Ev.pos rfl (Ev.bnd (markN_ev n 1 _ (by omega) (by omega) hl2) (Ev.neg (by omega) (Ev.bnd he ?_)))))))))))
  have hh := held_ev 1 d.length (by omega) (by omega) (by omega)
  exact Ev.step (fun k => laws_FnExactNearTree.j0.eq_2 _ _ _ _ _ _ _) (Ev.neg (by simp) (Ev.bnd (mark_ev 1 d (by omega) (by omega) (by omega)) (Ev.bnd hh (Ev.neg (by omega) (Ev.pos rfl (Ev.bnd ht (Ev.bnd hi (Ev.bnd he (Ev.pos rfl (Ev.bnd hh (Ev.neg (by omega) (Ev.pos rfl (Ev.now _)))))))))))))
end Go.Proofs.Ytbmoonciggfbpaa.Pure
