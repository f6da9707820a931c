/- For every net: what FnExactNetPut asks holds. No condition beyond those that the statement has. -/
import Derived.Test.YtppjelkljihdoaaDoorPrintF6
import Derived.Test.YtppjelkljihdoaaDoorY
import Derived.Test.YtppjelkljihdoaaDoorMText
import Derived.Test.YtppjelkljihdoaaDoorMArcs
set_option linter.unusedVariables false
namespace Go.Proofs.YtppjelkljihdoaaDoor.Pure
open Go.RowKit Go.Proofs.YtppjelkljihdoaaDoor.Print Go.Proofs.YtppjelkljihdoaaDoorW.PrintWords Go.Proofs.YtppjelkljihdoaaDoorW.PrintLast Go.Proofs.YtppjelkljihdoaaDoorY Go.Proofs.YtppjelkljihdoaaDoor.M
theorem FnExactNetPut : laws_FnExactNetPut.Pure := by
  intro n l _ hm _
  refine Ev.rounds (g := fun k => laws_FnExactNetPut.f k n l) ?_
  unfold laws_FnExactNetPut.f
  obtain ⟨r, hr, _, hs⟩ := szN_eq n l hm
  refine Ev.bnd0 hr (Ev.ite (fun _ => Ev.now _) (fun hn => ?_))
  have hl : l.length ≤ 1048576 := by omega
  have hl2 : (l.map convA).length ≤ 1000000000000 := by rw [List.length_map]; omega
  have ht := toNet_ev n l (by omega)
  exact Ev.bnd ht (Ev.bnd (sNetPut_ev n _ hl2) (Ev.bnd ht (Ev.bnd0 (iNetPut_eq n _) (Ev.pos rfl (Ev.bnd ht (Ev.bnd (eqNet_ev n _ hl2) (Ev.pos rfl (Ev.now _))))))))
end Go.Proofs.YtppjelkljihdoaaDoor.Pure
