/- What is nearest: walks put together and turned round; whole functions. -/
import Derived.Test.YtcfmejfmjjgoaaaMNear
import Derived.Test.YtcfmejfmjjgoaaaMNear2
import Derived.Test.YtcfmejfmjjgoaaaMNet

set_option linter.unusedVariables false
set_option linter.unusedSimpArgs false
namespace Go.Proofs.Ytcfmejfmjjgoaaa.M
open Go.RowKit Go.Proofs.Ytcfmejfmjjgoaaa.Print Go.Proofs.YtcfmejfmjjgoaaaW.PrintWords Go.Proofs.YtcfmejfmjjgoaaaW.PrintLast Go.Proofs.YtcfmejfmjjgoaaaY
/-- Two ways to say how far it is. -/
theorem best_cost {n : Int} {l : List Ar} (hN : NetP n l) {t : Int} {M : List Me} (h : Best n l t M) {v : Int} (h0 : 0 ≤ v) (h1 : v < n) (hf : (atM M v).f0 ≠ 99999) : ∃ p, Pth l t v p ∧ cst p = (atM M v).f0 ∧ cst p < 99999 := by
  obtain ⟨p, w⟩ := h.wit v h0 h1 hf
  have := h.top v h0 h1
  exact ⟨p, w.pth, w.c.symm, by rw [← w.c]; omega⟩
theorem best_uniq {n : Int} {l : List Ar} (hN : NetP n l) {t : Int} (ht0 : 0 ≤ t) (htn : t < n) {M M' : List Me} (h : Best n l t M) (h' : Best n l t M') : costsL M = costsL M' := (dist_eq hN ht0 htn h).symm.trans (dist_eq hN ht0 htn h')
end Go.Proofs.Ytcfmejfmjjgoaaa.M
