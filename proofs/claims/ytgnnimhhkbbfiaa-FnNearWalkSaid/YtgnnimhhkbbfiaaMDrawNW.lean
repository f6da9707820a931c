/- A net and two nodes are drawn. -/
import Derived.Test.YtgnnimhhkbbfiaaY
import Derived.Test.YtgnnimhhkbbfiaaMDraw
import Derived.Test.YtgnnimhhkbbfiaaMDrawNet
import Derived.Test.YtgnnimhhkbbfiaaPrintF4
set_option linter.unusedVariables false
namespace Go.Proofs.Ytgnnimhhkbbfiaa.M
open Go.RowKit Go.Proofs.Ytgnnimhhkbbfiaa.Print Go.Proofs.YtgnnimhhkbbfiaaW.PrintWords Go.Proofs.YtgnnimhhkbbfiaaW.PrintLast Go.Proofs.YtgnnimhhkbbfiaaY
theorem drawNW_ev (l0 : List Int) (hb : ∀ x ∈ l0, (Lit.int .u8 x).wf = true) : ∃ N l u v, Ev (fun k => spec_DrawNearWalk.f k l0) (N, l, u, v) ∧ DN N l := by
  obtain ⟨c, ec, hc⟩ := open_eq l0 hb
  obtain ⟨N, l, p', en, p0, p1, hN⟩ := anynet_ev c hc 0 (by omega) (by omega)
  obtain ⟨u, p2, eu, u2, u3, _, _⟩ := node_ev c hc p' N l (by omega) (by omega) hN
  obtain ⟨v, p3, ev, _, _, _, _⟩ := node_ev c hc p2 N l (by omega) (by omega) hN
  refine ⟨N, l, u, v, ?_, hN⟩
  unfold spec_DrawNearWalk.f
  exact Ev.bnd0 ec (Ev.bnd en (Ev.bnd eu (Ev.bnd ev (Ev.now _))))
end Go.Proofs.Ytgnnimhhkbbfiaa.M
