/- For every two stairs: what FnExactStairBest asks holds. No condition beyond those that the statement has. -/
import Derived.Test.YtfpfaaibgaejjaaPrintB
import Derived.Test.YtfpfaaibgaejjaaPrintF9
import Derived.Test.YtfpfaaibgaejjaaY
import Derived.Test.YtfpfaaibgaejjaaMSteps
import Derived.Test.YtfpfaaibgaejjaaMMarkS
import Derived.Test.YtfpfaaibgaejjaaMProfEv
set_option linter.unusedVariables false
namespace Go.Proofs.Ytfpfaaibgaejjaa.Pure
open Go.RowKit Go.Proofs.Ytfpfaaibgaejjaa.Print Go.Proofs.YtfpfaaibgaejjaaW.PrintWords Go.Proofs.YtfpfaaibgaejjaaW.PrintLast Go.Proofs.YtfpfaaibgaejjaaY Go.Proofs.Ytfpfaaibgaejjaa.M
theorem sz2 (l : List Lst) (hm : l.length ≤ maxLen) (left : Int) (h0 : 0 ≤ left) (h1 : left ≤ 1048576) : ∃ r, laws_szStepS.f l left = some r ∧ (r < 0 ∨ (l.length : Int) ≤ left ∧ 0 ≤ r ∧ r ≤ 1048576) := by
  unfold maxLen at hm
  unfold laws_szStepS.f
  rw [w64 (x := left - (l.length : Int)) (by omega) (by omega)]
  by_cases h : left - (l.length : Int) < 0
  · rw [if_pos h]; exact ⟨_, rfl, .inl (by omega)⟩
  · rw [if_neg h]; exact ⟨_, rfl, .inr ⟨by omega, by omega, by omega⟩⟩
theorem FnExactStairBest : laws_FnExactStairBest.Pure := by
  intro l0 l1 hm0 _ hm1 _
  refine Ev.rounds (g := fun k => laws_FnExactStairBest.f k l0 l1) ?_
  unfold laws_FnExactStairBest.f
  obtain ⟨r, hr, hr'⟩ := sz2 l0 hm0 1048576 (by omega) (by omega)
  refine Ev.bnd0 hr (Ev.ite (fun _ => Ev.now _) (fun hn => ?_))
  obtain ⟨r2, hr2, hr2'⟩ := sz2 l1 hm1 r (by omega) (by omega)
  refine Ev.bnd0 hr2 (Ev.ite (fun _ => Ev.now _) (fun hn2 => ?_))
  have hl0 : l0.length ≤ 1048576 := by omega
  have hl1 : l1.length ≤ 1048576 := by omega
  have ha : (l0.map conv).length = l0.length := List.length_map ..
  have hb : (l1.map conv).length = l1.length := List.length_map ..
  have t0 := toS_ev l0 (by omega)
  have t1 := toS_ev l1 (by omega)
  generalize l0.map conv = a at ha t0
  generalize l1.map conv = b at hb t1
  have hi := ibest_ev a b (by omega) (by omega)
  have hs := sbest_ev a b (by omega) (by omega)
  have hd : (bestV a b).1.length ≤ 12 := by
    unfold bestV
    split
    · exact ofV_len _
    · simp
  generalize bestV a b = v at hd hi hs
  obtain ⟨d, o⟩ := v
  have hd' : d.length ≤ 12 := hd
  have he := eqS_ev d (by omega)
  have hh := heldS_ev 1 d.length (by omega) (by omega) (by omega)
  have ho : ¬ (o != o) = true := by simp
  refine Ev.bnd t0 (Ev.bnd t1 (Ev.bnd hs (Ev.bnd t0 (Ev.bnd t1 (Ev.bnd hi (Ev.bnd he (Ev.pos rfl ?_)))))))
  refine Ev.step (fun k => laws_FnExactStairBest.j0.eq_2 _ _ _ _ _ _ _ _ _ _) (Ev.neg ho (Ev.bnd t0 (Ev.bnd (eqS_ev a (by omega)) (Ev.pos rfl (Ev.bnd t1 (Ev.bnd (eqS_ev b (by omega)) (Ev.pos rfl (Ev.bnd (markS_ev 1 a (by omega) (by omega) (by omega)) (Ev.bnd (markS_ev (1 + 2 * (a.length : Int)) b (by omega) (by omega) (by omega)) (Ev.neg (by omega) (Ev.bnd he (Ev.pos rfl ?_))))))))))))
  refine Ev.step (fun k => laws_FnExactStairBest.j1.eq_2 _ _ _ _ _ _ _) (Ev.neg ho (Ev.bnd (markS_ev 1 d (by omega) (by omega) (by omega)) (Ev.bnd hh (Ev.neg (by omega) (Ev.pos rfl (Ev.bnd t0 (Ev.bnd t1 (Ev.bnd hi (Ev.bnd he (Ev.pos rfl ?_))))))))))
  exact Ev.step (fun k => laws_FnExactStairBest.j2.eq_2 _ _ _ _) (Ev.neg ho (Ev.bnd hh (Ev.neg (by omega) (Ev.pos rfl (Ev.now _)))))
end Go.Proofs.Ytfpfaaibgaejjaa.Pure
