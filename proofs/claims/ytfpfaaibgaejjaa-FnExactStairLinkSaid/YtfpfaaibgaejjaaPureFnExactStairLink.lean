/- For every two stairs: what FnExactStairLink asks holds. No condition beyond those that the statement has. -/
import Derived.Test.YtfpfaaibgaejjaaPrintB
import Derived.Test.YtfpfaaibgaejjaaPrintF25
import Derived.Test.YtfpfaaibgaejjaaPrintF26
import Derived.Test.YtfpfaaibgaejjaaPrintF7
import Derived.Test.YtfpfaaibgaejjaaY
import Derived.Test.YtfpfaaibgaejjaaMSteps
import Derived.Test.YtfpfaaibgaejjaaMMarkS
import Derived.Test.YtfpfaaibgaejjaaMProfEv
set_option linter.unusedVariables false
namespace Go.Proofs.Ytfpfaaibgaejjaa.Pure
open Go.RowKit Go.Proofs.Ytfpfaaibgaejjaa.Print Go.Proofs.YtfpfaaibgaejjaaW.PrintWords Go.Proofs.YtfpfaaibgaejjaaW.PrintLast Go.Proofs.YtfpfaaibgaejjaaY Go.Proofs.Ytfpfaaibgaejjaa.M
theorem sz2 (l : List Lst) (hm : l.length ≤ maxLen) (left : Int) (h0 : 0 ≤ left) (h1 : left ≤ 1048576) : ∃ r, laws_szStepS.f l left = some r ∧ (r < 0 ∨ (l.length : Int) ≤ left ∧ 0 ≤ r ∧ r ≤ 1048576) := by
  unfold maxLen at hm
  unfold laws_szStepS.f
  rw [w64 (x := left - (l.length : Int)) (by omega) (by omega)]
  by_cases h : left - (l.length : Int) < 0
  · rw [if_pos h]; exact ⟨_, rfl, .inl (by omega)⟩
  · rw [if_neg h]; exact ⟨_, rfl, .inr ⟨by omega, by omega, by omega⟩⟩
theorem FnExactStairLink : laws_FnExactStairLink.Pure := by
  intro l0 l1 hm0 _ hm1 _
  refine Ev.rounds (g := fun k => laws_FnExactStairLink.f k l0 l1) ?_
  unfold laws_FnExactStairLink.f
  obtain ⟨r, hr, hr'⟩ := sz2 l0 hm0 1048576 (by omega) (by omega)
  refine Ev.bnd0 hr (Ev.ite (fun _ => Ev.now _) (fun hn => ?_))
  obtain ⟨r2, hr2, hr2'⟩ := sz2 l1 hm1 r (by omega) (by omega)
  refine Ev.bnd0 hr2 (Ev.ite (fun _ => Ev.now _) (fun hn2 => ?_))
  have hl0 : l0.length ≤ 1048576 := by omega
  have hl1 : l1.length ≤ 1048576 := by omega
  have ha : (l0.map conv).length = l0.length := List.length_map ..
  have hb : (l1.map conv).length = l1.length := List.length_map ..
  have t0 := toS_ev l0 (by omega)
  have t1 := toS_ev l1 (by omega)
  generalize l0.map conv = a at ha t0
  generalize l1.map conv = b at hb t1
  have hi : Ev (fun k => impl_StairLink.f k a b) (linkV a b) := ilink_ev a b (by omega) (by omega)
  have hs : Ev (fun k => spec_StairLink.f k a b) (linkV a b) := slink_ev a b (by omega) (by omega)
  have hd := linkV_len a b
  generalize linkV a b = d at hd hi hs
  have he := eqS_ev d (by omega)
  have hh := heldS_ev 1 d.length (by omega) (by omega) (by omega)
  refine Ev.bnd t0 (Ev.bnd t1 (Ev.bnd hs (Ev.bnd t0 (Ev.bnd t1 (Ev.bnd hi (Ev.bnd he (Ev.pos rfl (Ev.bnd t0 (Ev.bnd (eqS_ev a (by omega)) (Ev.pos rfl (Ev.bnd t1 (Ev.bnd (eqS_ev b (by omega)) (Ev.pos rfl (Ev.bnd (markS_ev 1 a (by omega) (by omega) (by omega)) (Ev.bnd (markS_ev (1 + 2 * (a.length : Int)) b (by omega) (by omega) (by omega)) (Ev.neg (by omega) (Ev.bnd he ?_)))))))))))))))))
  exact Ev.step (fun k => laws_FnExactStairLink.j0.eq_2 _ _ _ _ _ _) (Ev.neg (by simp) (Ev.bnd (markS_ev 1 d (by omega) (by omega) (by omega)) (Ev.bnd hh (Ev.neg (by omega) (Ev.pos rfl (Ev.bnd t0 (Ev.bnd t1 (Ev.bnd hi (Ev.bnd he (Ev.pos rfl (Ev.bnd hh (Ev.neg (by omega) (Ev.pos rfl (Ev.now _))))))))))))))
end Go.Proofs.Ytfpfaaibgaejjaa.Pure
