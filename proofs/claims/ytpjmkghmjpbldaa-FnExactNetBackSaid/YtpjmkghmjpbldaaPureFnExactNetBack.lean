/- For every net: what FnExactNetBack asks holds. No condition beyond those that the statement has. -/
import Derived.Test.YtpjmkghmjpbldaaPrintF7
import Derived.Test.YtpjmkghmjpbldaaY
import Derived.Test.YtpjmkghmjpbldaaMArcs
import Derived.Test.YtpjmkghmjpbldaaMMark
import Derived.Test.YtpjmkghmjpbldaaMBack
set_option linter.unusedVariables false
namespace Go.Proofs.Ytpjmkghmjpbldaa.Pure
open Go.RowKit Go.Proofs.Ytpjmkghmjpbldaa.Print Go.Proofs.YtpjmkghmjpbldaaW.PrintWords Go.Proofs.YtpjmkghmjpbldaaW.PrintLast Go.Proofs.YtpjmkghmjpbldaaY Go.Proofs.Ytpjmkghmjpbldaa.M
theorem FnExactNetBack : laws_FnExactNetBack.Pure := by
  intro n l _ hm _
  refine Ev.rounds (g := fun k => laws_FnExactNetBack.f k n l) ?_
  unfold laws_FnExactNetBack.f
  obtain ⟨r, hr, _, hs⟩ := szN_eq n l hm
  refine Ev.bnd0 hr (Ev.ite (fun _ => Ev.now _) (fun hn => ?_))
  have hl : l.length ≤ 1048576 := by omega
  have hl2 : (l.map convA).length ≤ 1000000000000 := by rw [List.length_map]; omega
  have hl3 : (l.map convA).length ≤ 1000000000 := by rw [List.length_map]; omega
  have hb3 : (backV n (l.map convA)).2.length ≤ 1000000000 := by
    unfold backV
    split
    · rw [turnL_len]; exact hl3
    · simp
  have ht := toNet_ev n l (by omega)
  have hi := iNetBack_ev n _ hl3
  have he := eqNet_ev (backV n (l.map convA)).1 (backV n (l.map convA)).2 (by omega)
  have hh := heldN_ev (backV n (l.map convA)).1 1 (backV n (l.map convA)).2.length (by omega) (by omega) (by omega)
  refine Ev.bnd ht (Ev.bnd (sNetBack_ev n _ hl3) (Ev.bnd ht (Ev.bnd hi (Ev.bnd he (Ev.pos rfl (Ev.bnd ht (Ev.bnd (eqNet_ev n _ hl2) (Ev.pos rfl (Ev.bnd (markN_ev n 1 _ (by omega) (by omega) hl2) (Ev.neg (by omega) (Ev.bnd he ?_)))))))))))
  exact Ev.step (fun k => laws_FnExactNetBack.j0.eq_2 _ _ _ _ _ _ _ _) (Ev.neg (by simp) (Ev.bnd (markN_ev _ 1 _ (by omega) (by omega) (by omega)) (Ev.bnd hh (Ev.neg (by omega) (Ev.pos rfl (Ev.bnd ht (Ev.bnd hi (Ev.bnd he (Ev.pos rfl (Ev.bnd hh (Ev.neg (by omega) (Ev.pos rfl (Ev.now _)))))))))))))
end Go.Proofs.Ytpjmkghmjpbldaa.Pure
