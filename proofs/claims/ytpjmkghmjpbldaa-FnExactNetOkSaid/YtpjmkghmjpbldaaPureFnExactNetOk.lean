/- For every net: what FnExactNetOk asks holds. No condition beyond those that the statement has. -/
import Derived.Test.YtpjmkghmjpbldaaPrintF20
import Derived.Test.YtpjmkghmjpbldaaPrintF22
import Derived.Test.YtpjmkghmjpbldaaPrintF3
import Derived.Test.YtpjmkghmjpbldaaY
import Derived.Test.YtpjmkghmjpbldaaMNet
import Derived.Test.YtpjmkghmjpbldaaMArcs
set_option linter.unusedVariables false
namespace Go.Proofs.Ytpjmkghmjpbldaa.Pure
open Go.RowKit Go.Proofs.Ytpjmkghmjpbldaa.Print Go.Proofs.YtpjmkghmjpbldaaW.PrintWords Go.Proofs.YtpjmkghmjpbldaaW.PrintLast Go.Proofs.YtpjmkghmjpbldaaY Go.Proofs.Ytpjmkghmjpbldaa.M
theorem FnExactNetOk : laws_FnExactNetOk.Pure := by
  intro n l _ hm _
  refine Ev.rounds (g := fun k => laws_FnExactNetOk.f k n l) ?_
  unfold laws_FnExactNetOk.f
  obtain ⟨r, hr, _, hs⟩ := szN_eq n l hm
  refine Ev.bnd0 hr (Ev.ite (fun _ => Ev.now _) (fun hn => ?_))
  have hl : l.length ≤ 1048576 := by omega
  have hl2 : (l.map convA).length ≤ 1000000000000 := by rw [List.length_map]; omega
  have ht := toNet_ev n l (by omega)
  have hsp : Ev (fun k => spec_NetOk.f k n (l.map convA)) (netOkB n (l.map convA)) := Ev.bnd (sok1_ev n _ hl2) (Ev.now _)
  exact Ev.bnd ht (Ev.bnd hsp (Ev.bnd ht (Ev.bnd0 (a := netOkB n (l.map convA)) rfl (Ev.neg (by simp) (Ev.bnd ht (Ev.bnd (eqNet_ev n _ hl2) (Ev.pos rfl (Ev.now _))))))))
end Go.Proofs.Ytpjmkghmjpbldaa.Pure
