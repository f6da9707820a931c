/- For every net and walk: what FnExactWalkPlain asks holds. No condition beyond those that the statement has. -/
import Derived.Test.YtpjmkghmjpbldaaPrintF18
import Derived.Test.YtpjmkghmjpbldaaY
import Derived.Test.YtpjmkghmjpbldaaMArcs
import Derived.Test.YtpjmkghmjpbldaaMInts
import Derived.Test.YtpjmkghmjpbldaaMMark
import Derived.Test.YtpjmkghmjpbldaaMPlainW
set_option linter.unusedVariables false
namespace Go.Proofs.Ytpjmkghmjpbldaa.Pure
open Go.RowKit Go.Proofs.Ytpjmkghmjpbldaa.Print Go.Proofs.YtpjmkghmjpbldaaW.PrintWords Go.Proofs.YtpjmkghmjpbldaaW.PrintLast Go.Proofs.YtpjmkghmjpbldaaY Go.Proofs.Ytpjmkghmjpbldaa.M
theorem FnExactWalkPlain : laws_FnExactWalkPlain.Pure := by
  intro n l w _ hm _ _ _
  refine Ev.rounds (g := fun k => laws_FnExactWalkPlain.f k n l w) ?_
  unfold laws_FnExactWalkPlain.f
  refine Ev.ite (fun _ => Ev.now _) (fun hw => ?_)
  obtain ⟨r, hr, _, hs⟩ := szN_eq n l hm
  refine Ev.bnd0 hr (Ev.ite (fun _ => Ev.now _) (fun hn => ?_))
  have hl : l.length ≤ 1048576 := by omega
  have hl2 : (l.map convA).length ≤ 1000000000000 := by rw [List.length_map]; omega
  have ht := toNet_ev n l (by omega)
  have hti := toI_ev w (by omega)
  have hd : (plainV n (l.map convA) w).length ≤ 1048576 := by
    unfold plainV
    split
    · rename_i c
      obtain ⟨hP, hW⟩ := walkP_of c
      have h20 := hW.2
      have hJ := plJ_pl (nod (l.map convA) w) w.length (w.length + 1) 0 (by omega) (by omega)
      have := pl_few hJ (by omega)
      unfold plW
      rw [List.length_map]; omega
    · simp
  have hi := iPlain_ev n (l.map convA) w hl2 (by omega)
  have hs := sPlain_ev n (l.map convA) w hl2 (by omega)
  generalize plainV n (l.map convA) w = d at hd hi hs
  have he := eqI_ev d (by omega)
  have hne := eqNet_ev n (l.map convA) hl2
  have hmN := markN_ev n 1 (l.map convA) (by omega) (by omega) hl2
  have hlm : (l.map convA).length ≤ 1048576 := by rw [List.length_map]; omega
  have hmw := mark_ev (1 + 5 * ((l.map convA).length : Int)) w (by omega) (by omega) (by omega)
  have hh := held_ev 1 d.length (by omega) (by omega) (by omega)
  refine Ev.bnd ht (Ev.bnd hti (Ev.bnd hs (Ev.bnd ht (Ev.bnd hti (Ev.bnd hi (Ev.bnd he (Ev.pos rfl (Ev.bnd ht (Ev.bnd hne (Ev.pos rfl (Ev.bnd hti (Ev.bnd (eqI_ev w (by omega)) (Ev.pos rfl (Ev.bnd hmN (Ev.bnd hmw (Ev.neg (by omega) (Ev.bnd he ?_)))))))))))))))))
  exact Ev.step (fun k => laws_FnExactWalkPlain.j0.eq_2 _ _ _ _ _ _ _) (Ev.neg (by simp) (Ev.bnd (mark_ev 1 d (by omega) (by omega) (by omega)) (Ev.bnd hh (Ev.neg (by omega) (Ev.pos rfl (Ev.bnd ht (Ev.bnd hti (Ev.bnd hi (Ev.bnd he (Ev.pos rfl (Ev.bnd hh (Ev.neg (by omega) (Ev.pos rfl (Ev.now _))))))))))))))
end Go.Proofs.Ytpjmkghmjpbldaa.Pure
