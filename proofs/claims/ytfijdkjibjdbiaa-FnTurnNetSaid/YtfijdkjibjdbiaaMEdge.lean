/- From one arc to another: where a turn may be, and what it costs. -/
import Derived.Test.YtfijdkjibjdbiaaY
import Derived.Test.YtfijdkjibjdbiaaMNet
import Derived.Test.YtfijdkjibjdbiaaMTurns2

set_option linter.unusedVariables false
set_option linter.unusedSimpArgs false
namespace Go.Proofs.Ytfijdkjibjdbiaa.M
open Go.RowKit Go.Proofs.Ytfijdkjibjdbiaa.Print Go.Proofs.YtfijdkjibjdbiaaW.PrintWords Go.Proofs.YtfijdkjibjdbiaaW.PrintLast Go.Proofs.YtfijdkjibjdbiaaY
/-! ### The graph of arcs: from one to another where a turn may be -/
def tE (l : List Ar) (t : List Tu) (k i : Nat) : Bool := decide ((l.getD k arz).f1 = (l.getD i arz).f0) && decide (0 ≤ tCost (k : Int) (i : Int) t)
def tW (l : List Ar) (t : List Tu) (k i : Nat) : Int := tCost (k : Int) (i : Int) t + (l.getD i arz).f2
def tS (l : List Ar) (v : Int) (i : Nat) : Int := if (l.getD i arz).f0 = v then (l.getD i arz).f2 else 99999
theorem arcAt {n : Int} {l : List Ar} (hN : NetP n l) (i : Nat) (h : i < l.length) : 0 ≤ (l.getD i arz).f0 ∧ (l.getD i arz).f0 < n ∧ 0 ≤ (l.getD i arz).f1 ∧ (l.getD i arz).f1 < n ∧ (l.getD i arz).f0 ≠ (l.getD i arz).f1 ∧ 0 ≤ (l.getD i arz).f2 ∧ (l.getD i arz).f2 ≤ 99 := by
  have := hN.arc _ (show l.getD i arz ∈ l by rw [getDA l i h]; exact List.getElem_mem _)
  exact ⟨this.1, this.2.1, this.2.2.1, this.2.2.2.1, this.2.2.2.2.1, this.2.2.2.2.2.1, this.2.2.2.2.2.2.1⟩
theorem tE_iff {l : List Ar} {t : List Tu} {k i : Nat} : tE l t k i = true ↔ (l.getD k arz).f1 = (l.getD i arz).f0 ∧ 0 ≤ tCost (k : Int) (i : Int) t := by
  unfold tE; simp only [Bool.and_eq_true, decide_eq_true_eq]
end Go.Proofs.Ytfijdkjibjdbiaa.M
