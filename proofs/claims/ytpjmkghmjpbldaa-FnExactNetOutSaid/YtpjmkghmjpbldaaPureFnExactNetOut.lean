/- For every net and node: what FnExactNetOut asks holds. No condition beyond those that the statement has. -/
import Derived.Test.YtpjmkghmjpbldaaPrintF6
import Derived.Test.YtpjmkghmjpbldaaY
import Derived.Test.YtpjmkghmjpbldaaMArcs
import Derived.Test.YtpjmkghmjpbldaaMInts
import Derived.Test.YtpjmkghmjpbldaaMMark
import Derived.Test.YtpjmkghmjpbldaaMOut
set_option linter.unusedVariables false
namespace Go.Proofs.Ytpjmkghmjpbldaa.Pure
open Go.RowKit Go.Proofs.Ytpjmkghmjpbldaa.Print Go.Proofs.YtpjmkghmjpbldaaW.PrintWords Go.Proofs.YtpjmkghmjpbldaaW.PrintLast Go.Proofs.YtpjmkghmjpbldaaY Go.Proofs.Ytpjmkghmjpbldaa.M
theorem FnExactNetOut : laws_FnExactNetOut.Pure := by
  intro n l v _ hm _ _
  refine Ev.rounds (g := fun k => laws_FnExactNetOut.f k n l v) ?_
  unfold laws_FnExactNetOut.f
  obtain ⟨r, hr, _, hs⟩ := szN_eq n l hm
  refine Ev.bnd0 hr (Ev.ite (fun _ => Ev.now _) (fun hn => ?_))
  have hl : l.length ≤ 1048576 := by omega
  have hl2 : (l.map convA).length ≤ 1000000000000 := by rw [List.length_map]; omega
  have hl3 : (l.map convA).length ≤ 1000000000 := by rw [List.length_map]; omega
  have hl4 : (l.map convA).length ≤ 1048576 := by rw [List.length_map]; omega
  have ht := toNet_ev n l (by omega)
  have hd : (outV n (l.map convA) v).length ≤ 1048576 := by
    unfold outV
    split
    · have := outU_len (l.map convA) v (l.map convA).length; omega
    · simp
  have hi := iNetOut_ev n (l.map convA) v hl3
  have hs := sNetOut_ev n (l.map convA) v hl3
  generalize outV n (l.map convA) v = d at hd hi hs
  have he := eqI_ev d (by omega)
  refine Ev.bnd ht (Ev.bnd hs (Ev.bnd ht (Ev.bnd hi (Ev.bnd he (Ev.pos rfl (Ev.bnd ht (Ev.bnd (eqNet_ev n _ hl2) (Ev.pos rfl (Ev.bnd (markN_ev n 1 _ (by omega) (by omega) hl2) (Ev.neg (by omega) (Ev.bnd he ?_)))))))))))
  have hh := held_ev 1 d.length (by omega) (by omega) (by omega)
  exact Ev.step (fun k => laws_FnExactNetOut.j0.eq_2 _ _ _ _ _ _ _) (Ev.neg (by simp) (Ev.bnd (mark_ev 1 d (by omega) (by omega) (by omega)) (Ev.bnd hh (Ev.neg (by omega) (Ev.pos rfl (Ev.bnd ht (Ev.bnd hi (Ev.bnd he (Ev.pos rfl (Ev.bnd hh (Ev.neg (by omega) (Ev.pos rfl (Ev.now _)))))))))))))
end Go.Proofs.Ytpjmkghmjpbldaa.Pure
