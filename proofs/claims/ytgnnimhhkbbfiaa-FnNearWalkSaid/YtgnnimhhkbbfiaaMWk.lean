/- Two slices of numbers compared as the laws do. -/
import Derived.Test.YtgnnimhhkbbfiaaY
import Derived.Test.YtgnnimhhkbbfiaaMNet
import Derived.Test.YtgnnimhhkbbfiaaPrintB
set_option linter.unusedVariables false
set_option linter.unusedSimpArgs false
namespace Go.Proofs.Ytgnnimhhkbbfiaa.M
open Go.RowKit Go.Proofs.Ytgnnimhhkbbfiaa.Print Go.Proofs.YtgnnimhhkbbfiaaW.PrintWords Go.Proofs.YtgnnimhhkbbfiaaW.PrintLast Go.Proofs.YtgnnimhhkbbfiaaY
theorem wkI_loop (l : List Int) (hl : l.length ≤ 1000000000) (d : Nat) : ∀ i : Nat, i ≤ l.length → l.length - i = d → Ev (fun k => laws_wkInts.l0 k l l (i : Int)) true := by
  induction d with
  | zero =>
    intro i hi hd
    exact Ev.step (fun k => laws_wkInts.l0.eq_2 _ _ _ _) (Ev.neg (by omega) (Ev.now _))
  | succ d ih =>
    intro i hi hd
    refine Ev.step (fun k => laws_wkInts.l0.eq_2 _ _ _ _) (Ev.pos (by omega) (Ev.pos (by omega) (Ev.pos (by omega) (Ev.pos rfl ?_))))
    rw [nxt i (by omega)]
    exact ih (i + 1) (by omega) (by omega)
theorem wkI_ev (l : List Int) (hl : l.length ≤ 1000000000) : Ev (fun k => laws_wkInts.f k l l) true := by
  unfold laws_wkInts.f
  exact Ev.pos rfl (wkI_loop l hl l.length 0 (by omega) (by omega))
end Go.Proofs.Ytgnnimhhkbbfiaa.M
