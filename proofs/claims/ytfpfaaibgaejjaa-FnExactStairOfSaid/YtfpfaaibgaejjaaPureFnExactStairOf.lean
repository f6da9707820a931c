/- For every steps: what FnExactStairOf asks holds. No condition beyond those that the statement has. -/
import Derived.Test.YtfpfaaibgaejjaaPrintF4
import Derived.Test.YtfpfaaibgaejjaaY
import Derived.Test.YtfpfaaibgaejjaaMSteps
import Derived.Test.YtfpfaaibgaejjaaMMarkS
import Derived.Test.YtfpfaaibgaejjaaMProfEv
set_option linter.unusedVariables false
namespace Go.Proofs.Ytfpfaaibgaejjaa.Pure
open Go.RowKit Go.Proofs.Ytfpfaaibgaejjaa.Print Go.Proofs.YtfpfaaibgaejjaaW.PrintWords Go.Proofs.YtfpfaaibgaejjaaW.PrintLast Go.Proofs.YtfpfaaibgaejjaaY Go.Proofs.Ytfpfaaibgaejjaa.M
theorem FnExactStairOf : laws_FnExactStairOf.Pure := by
  intro l0 hm0 _
  refine Ev.rounds (g := fun k => laws_FnExactStairOf.f k l0) ?_
  unfold laws_FnExactStairOf.f
  obtain ⟨r, hr, hr'⟩ := sz_eq l0 hm0
  refine Ev.bnd0 hr (Ev.ite (fun _ => Ev.now _) (fun hn => ?_))
  have hl0 : l0.length ≤ 1048576 := by omega
  have ha : (l0.map conv).length = l0.length := List.length_map ..
  have t0 := toS_ev l0 (by omega)
  generalize l0.map conv = a at ha t0
  have hi := iof_ev a (by omega)
  have hs := sof_ev a (by omega)
  have hd := ofV_len a
  generalize ofV a = v at hd hi hs
  obtain ⟨d, o⟩ := v
  have hd' : d.length ≤ 12 := hd
  have he := eqS_ev d (by omega)
  have hh := heldS_ev 1 d.length (by omega) (by omega) (by omega)
  have no : (o != o) = false := by simp
  have ho : ¬ (o != o) = true := by simp
  refine Ev.bnd t0 (Ev.bnd hs (Ev.bnd t0 (Ev.bnd hi (Ev.bnd he (Ev.pos rfl ?_)))))
  refine Ev.step (fun k => laws_FnExactStairOf.j0.eq_2 _ _ _ _ _ _ _ _) (Ev.neg ho (Ev.bnd t0 (Ev.bnd (eqS_ev a (by omega)) (Ev.pos rfl (Ev.bnd (markS_ev 1 a (by omega) (by omega) (by omega)) (Ev.neg (by omega) (Ev.bnd he (Ev.pos rfl ?_))))))))
  refine Ev.step (fun k => laws_FnExactStairOf.j1.eq_2 _ _ _ _ _ _) (Ev.neg ho (Ev.bnd (markS_ev 1 d (by omega) (by omega) (by omega)) (Ev.bnd hh (Ev.neg (by omega) (Ev.pos rfl (Ev.bnd t0 (Ev.bnd hi (Ev.bnd he (Ev.pos rfl ?_)))))))))
  exact Ev.step (fun k => laws_FnExactStairOf.j2.eq_2 _ _ _ _) (Ev.neg ho (Ev.bnd hh (Ev.neg (by omega) (Ev.pos rfl (Ev.now _)))))
end Go.Proofs.Ytfpfaaibgaejjaa.Pure
