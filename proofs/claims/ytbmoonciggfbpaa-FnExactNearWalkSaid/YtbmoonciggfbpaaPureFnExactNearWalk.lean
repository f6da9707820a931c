/- For every net and two nodes: what FnExactNearWalk asks holds. No condition beyond those that the statement has. -/
import Derived.Test.YtbmoonciggfbpaaPrintF11
import Derived.Test.YtbmoonciggfbpaaY
import Derived.Test.YtbmoonciggfbpaaMArcs
import Derived.Test.YtbmoonciggfbpaaMInts
import Derived.Test.YtbmoonciggfbpaaMMark
import Derived.Test.YtbmoonciggfbpaaMNear7
set_option linter.unusedVariables false
namespace Go.Proofs.Ytbmoonciggfbpaa.Pure
open Go.RowKit Go.Proofs.Ytbmoonciggfbpaa.Print Go.Proofs.YtbmoonciggfbpaaW.PrintWords Go.Proofs.YtbmoonciggfbpaaW.PrintLast Go.Proofs.YtbmoonciggfbpaaY Go.Proofs.Ytbmoonciggfbpaa.M
theorem FnExactNearWalk : laws_FnExactNearWalk.Pure := by
  intro n l u t _ hm _ _ _
  refine Ev.rounds (g := fun k => laws_FnExactNearWalk.f k n l u t) ?_
  unfold laws_FnExactNearWalk.f
  obtain ⟨r, hr, _, hs⟩ := szN_eq n l hm
  refine Ev.bnd0 hr (Ev.ite (fun _ => Ev.now _) (fun hn => ?_))
  have hl : l.length ≤ 1048576 := by omega
  have hl2 : (l.map convA).length ≤ 1000000000000 := by rw [List.length_map]; omega
  have hl3 : (l.map convA).length ≤ 1000000000 := by rw [List.length_map]; omega
  have ht := toNet_ev n l (by omega)
  obtain ⟨⟨w, o⟩, hi, hs, hd, _, _⟩ := nearWalk_ev n (l.map convA) u t hl3
  have hd' : w.length ≤ 8 := hd
  have he := eqI_ev w (by omega)
  have hh := held_ev 1 w.length (by omega) (by omega) (by omega)
  have ho : ¬ (o != o) = true := by simp
  have no : (o != o) = false := by simp
  refine Ev.bnd ht (Ev.bnd hs (Ev.bnd ht (Ev.bnd hi (Ev.bnd he (Ev.pos rfl ?_)))))
  refine Ev.step (fun k => laws_FnExactNearWalk.j0.eq_2 _ _ _ _ _ _ _ _ _ _ _ _) (Ev.neg ho (Ev.bnd ht (Ev.bnd (eqNet_ev n _ hl2) (Ev.pos rfl (Ev.bnd (markN_ev n 1 _ (by omega) (by omega) hl2) (Ev.neg (by omega) (Ev.bnd he (Ev.pos rfl ?_))))))))
  refine Ev.step (fun k => laws_FnExactNearWalk.j1.eq_2 _ _ _ _ _ _ _ _ _) (Ev.neg ho (Ev.bnd (mark_ev 1 w (by omega) (by omega) (by omega)) (Ev.bnd hh (Ev.neg (by omega) (Ev.pos rfl (Ev.bnd ht (Ev.bnd hi (Ev.bnd he (Ev.pos rfl ?_)))))))))
  exact Ev.step (fun k => laws_FnExactNearWalk.j2.eq_2 _ _ _ _) (Ev.neg ho (Ev.bnd hh (Ev.neg (by omega) (Ev.pos rfl (Ev.now _)))))
end Go.Proofs.Ytbmoonciggfbpaa.Pure
