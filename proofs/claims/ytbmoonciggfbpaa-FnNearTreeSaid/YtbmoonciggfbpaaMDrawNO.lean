/- A net and a node are drawn. -/
import Derived.Test.YtbmoonciggfbpaaY
import Derived.Test.YtbmoonciggfbpaaMDraw
import Derived.Test.YtbmoonciggfbpaaMDrawNet
import Derived.Test.YtbmoonciggfbpaaPrintF37
set_option linter.unusedVariables false
namespace Go.Proofs.Ytbmoonciggfbpaa.M
open Go.RowKit Go.Proofs.Ytbmoonciggfbpaa.Print Go.Proofs.YtbmoonciggfbpaaW.PrintWords Go.Proofs.YtbmoonciggfbpaaW.PrintLast Go.Proofs.YtbmoonciggfbpaaY
/-- A net and a node are drawn. -/
theorem drawNO_ev (l0 : List Int) (hb : ∀ x ∈ l0, (Lit.int .u8 x).wf = true) : ∃ N l v, Ev (fun k => spec_DrawNetOut.f k l0) (N, l, v) ∧ DN N l := by
  obtain ⟨c, ec, hc⟩ := open_eq l0 hb
  obtain ⟨N, l, p', en, p0, p1, hN⟩ := anynet_ev c hc 0 (by omega) (by omega)
  obtain ⟨v, p2, ev, _, _, v0, v1⟩ := node_ev c hc p' N l (by omega) (by omega) hN
  refine ⟨N, l, v, ?_, hN⟩
  unfold spec_DrawNetOut.f
  exact Ev.bnd0 ec (Ev.bnd en (Ev.bnd ev (Ev.now _)))
end Go.Proofs.Ytbmoonciggfbpaa.M
