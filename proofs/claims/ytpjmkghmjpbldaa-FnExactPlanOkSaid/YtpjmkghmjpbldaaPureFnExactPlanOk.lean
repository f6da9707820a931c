/- For every timetable: what FnExactPlanOk asks holds. No condition beyond those that the statement has. -/
import Derived.Test.YtpjmkghmjpbldaaPrintF8
import Derived.Test.YtpjmkghmjpbldaaY
import Derived.Test.YtpjmkghmjpbldaaMConns
import Derived.Test.YtpjmkghmjpbldaaMPlan
set_option linter.unusedVariables false
namespace Go.Proofs.Ytpjmkghmjpbldaa.Pure
open Go.RowKit Go.Proofs.Ytpjmkghmjpbldaa.Print Go.Proofs.YtpjmkghmjpbldaaW.PrintWords Go.Proofs.YtpjmkghmjpbldaaW.PrintLast Go.Proofs.YtpjmkghmjpbldaaY Go.Proofs.Ytpjmkghmjpbldaa.M
theorem FnExactPlanOk : laws_FnExactPlanOk.Pure := by
  intro n m l _ _ hm _
  refine Ev.rounds (g := fun k => laws_FnExactPlanOk.f k n m l) ?_
  unfold laws_FnExactPlanOk.f
  obtain ⟨r, hr, _, hs⟩ := szP_eq n m l hm
  refine Ev.bnd0 hr (Ev.ite (fun _ => Ev.now _) (fun hn => ?_))
  have hl : l.length ≤ 1048576 := by omega
  have hl2 : (l.map convC).length ≤ 1000000000000 := by rw [List.length_map]; omega
  have ht := toPlan_ev n m l (by omega)
  exact Ev.bnd ht (Ev.bnd (sPlan_ev n m _ hl2) (Ev.bnd ht (Ev.bnd (iPlan_ev n m _ hl2) (Ev.neg (by simp) (Ev.bnd ht (Ev.bnd (eqPlan_ev n m _ hl2) (Ev.pos rfl (Ev.now _))))))))
end Go.Proofs.Ytpjmkghmjpbldaa.Pure
