/- For every slice of steps and every time: what FnExactStairLast asks holds. No condition beyond those that the statement has. -/
import Derived.Test.YtnpjijakebdljaaPrintF7
import Derived.Test.YtnpjijakebdljaaY
import Derived.Test.YtnpjijakebdljaaMSteps
set_option linter.unusedVariables false
namespace Go.Proofs.Ytnpjijakebdljaa.Pure
open Go.RowKit Go.Proofs.Ytnpjijakebdljaa.Print Go.Proofs.YtnpjijakebdljaaW.PrintWords Go.Proofs.YtnpjijakebdljaaW.PrintLast Go.Proofs.YtnpjijakebdljaaY Go.Proofs.Ytnpjijakebdljaa.M
theorem FnExactStairLast : laws_FnExactStairLast.Pure := by
  intro l a hm hw _
  refine Ev.rounds (g := fun k => laws_FnExactStairLast.f k l a) ?_
  unfold laws_FnExactStairLast.f
  obtain ⟨r, hr, hs⟩ := sz_eq l hm
  refine Ev.bnd0 hr (Ev.ite (fun _ => Ev.now _) (fun hn => ?_))
  have hl : l.length ≤ 1048576 := by omega
  have hl2 : (l.map conv).length ≤ 1000000000000 := by rw [List.length_map]; omega
  have ht := toS_ev l (by omega)
  exact Ev.bnd ht (Ev.bnd (slast_ev a _ hl2) (Ev.bnd ht (Ev.bnd (ilast_ev a _ hl2) (Ev.pos rfl (Ev.bnd ht (Ev.bnd (eqS_ev _ hl2) (Ev.pos rfl (Ev.now _))))))))
end Go.Proofs.Ytnpjijakebdljaa.Pure
