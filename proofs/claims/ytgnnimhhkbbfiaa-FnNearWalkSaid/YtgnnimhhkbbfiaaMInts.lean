/- Rows of whole numbers: copied, compared, marked, looked at again. -/
import Derived.Test.YtgnnimhhkbbfiaaY
import Derived.Test.YtgnnimhhkbbfiaaMNet

set_option linter.unusedVariables false
set_option linter.unusedSimpArgs false
namespace Go.Proofs.Ytgnnimhhkbbfiaa.M
open Go.RowKit Go.Proofs.Ytgnnimhhkbbfiaa.Print Go.Proofs.YtgnnimhhkbbfiaaW.PrintWords Go.Proofs.YtgnnimhhkbbfiaaW.PrintLast Go.Proofs.YtgnnimhhkbbfiaaY
/-- So many numbers from one on. -/
def ups (a : Int) (n : Nat) : List Int := (List.range n).map fun (i : Nat) => a + (i : Int)
theorem ups_len (a : Int) (n : Nat) : (ups a n).length = n := by simp [ups]
theorem ups_at (a : Int) (n i : Nat) (h : i < n) : (ups a n).getD i 0 = a + i := by rw [getDI _ _ (by rw [ups_len]; exact h)]; simp [ups]
end Go.Proofs.Ytgnnimhhkbbfiaa.M
