/- What is drawn as a net, turns and a walk. -/
import Derived.Test.YtcfmejfmjjgoaaaY
import Derived.Test.YtcfmejfmjjgoaaaMDraw
import Derived.Test.YtcfmejfmjjgoaaaMDrawNet
import Derived.Test.YtcfmejfmjjgoaaaMDrawWalk
import Derived.Test.YtcfmejfmjjgoaaaMDrawTurns
import Derived.Test.YtcfmejfmjjgoaaaPrintF22
import Derived.Test.YtcfmejfmjjgoaaaMNet
import Derived.Test.YtcfmejfmjjgoaaaPrintB
import Derived.Test.YtcfmejfmjjgoaaaPrintF45
import Derived.Test.YtcfmejfmjjgoaaaPrintF46
import Derived.Test.YtcfmejfmjjgoaaaPrintF57
set_option linter.unusedVariables false
set_option linter.unusedSimpArgs false
namespace Go.Proofs.Ytcfmejfmjjgoaaa.M
open Go.RowKit Go.Proofs.Ytcfmejfmjjgoaaa.Print Go.Proofs.YtcfmejfmjjgoaaaW.PrintWords Go.Proofs.YtcfmejfmjjgoaaaW.PrintLast Go.Proofs.YtcfmejfmjjgoaaaY
theorem drawTW_ev (l0 : List Int) (hb : ∀ x ∈ l0, (Lit.int .u8 x).wf = true) : ∃ n l t w, Ev (fun k => spec_DrawTurnWalk.f k l0) (n, l, t, w) ∧ DN n l ∧ t.length ≤ 21 ∧ w.length ≤ 22 := by
  obtain ⟨c, ec, hc⟩ := open_eq l0 hb
  obtain ⟨n, l, p, en, p0, p1, hN⟩ := anynet_ev c hc 0 (by omega) (by omega)
  have hlen := hN.len
  obtain ⟨t, q, et, q0, q1, ht⟩ := dturns_ev c hc p n l (by omega) (by omega) (by omega)
  obtain ⟨w, q', ew, _, _, hw, _⟩ := anywalk_ev c hc q n l (by omega) (by omega) hN
  refine ⟨n, l, t, w, ?_, hN, ht, hw⟩
  unfold spec_DrawTurnWalk.f
  exact Ev.bnd0 ec (Ev.bnd en (Ev.bnd et (Ev.bnd ew (Ev.now _))))
end Go.Proofs.Ytcfmejfmjjgoaaa.M
