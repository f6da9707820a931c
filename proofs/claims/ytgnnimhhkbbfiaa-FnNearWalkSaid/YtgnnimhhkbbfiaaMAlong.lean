/- The nodes of a walk. -/
import Derived.Test.YtgnnimhhkbbfiaaY
import Derived.Test.YtgnnimhhkbbfiaaMNet
import Derived.Test.YtgnnimhhkbbfiaaMWalk
import Derived.Test.YtgnnimhhkbbfiaaMWalk2
import Derived.Test.YtgnnimhhkbbfiaaPrintF23
set_option linter.unusedVariables false
set_option linter.unusedSimpArgs false
namespace Go.Proofs.Ytgnnimhhkbbfiaa.M
open Go.RowKit Go.Proofs.Ytgnnimhhkbbfiaa.Print Go.Proofs.YtgnnimhhkbbfiaaW.PrintWords Go.Proofs.YtgnnimhhkbbfiaaW.PrintLast Go.Proofs.YtgnnimhhkbbfiaaY
def tos (l : List Ar) (w : List Int) : List Int := w.map fun k => (arc l k).f1
theorem ialong_loop (n : Int) (l : List Ar) (w : List Int) (h : ∀ k ∈ w, In l k) (hw : w.length ≤ 1000000) (d : Nat) : ∀ (i : Nat) (out : List Int), i ≤ w.length → w.length - i = d → out.length ≤ 1000 + i →
    Ev (fun k => impl_Net_along.l0 k out w (w.length : Int) (i : Int) n l) (out ++ tos l (w.drop i)) := by
  induction d with
  | zero =>
    intro i out hi hd ho
    refine Ev.step (fun k => impl_Net_along.l0.eq_2 _ _ _ _ _ _ _) (Ev.neg (by omega) (Ev.now' ?_))
    rw [List.drop_eq_nil_of_le (by omega)]; simp [tos]
  | succ d ih =>
    intro i out hi hd ho
    have hin : In l (w.getD i 0) := h _ (by rw [getDI w i (by omega)]; exact List.getElem_mem _)
    refine Ev.step (fun k => impl_Net_along.l0.eq_2 _ _ _ _ _ _ _) (Ev.pos (by omega) (Ev.pos (by omega) (Ev.pos (by omega) ?_)))
    rw [rdI, rdArc, nxt i (by omega), dropI w i (by omega)]
    refine Ev.pos hin.1 (Ev.pos hin.2 (Ev.pos (by omega) (Ev.to (ih (i + 1) _ (by omega) (by omega) (by rw [List.length_append, List.length_singleton]; omega)) ?_)))
    rw [List.append_assoc]; rfl
/-- A walk's nodes. -/
def nodes (l : List Ar) (w : List Int) : List Int := (arc l (w.getD 0 0)).f0 :: tos l w
theorem ialong_ev (n : Int) (l : List Ar) (w : List Int) (h : WalkP l w) (h0 : w.length ≠ 0) : Ev (fun k => impl_Net_along.f k n l w) (nodes l w) := by
  have hin : In l (w.getD 0 0) := (h.1 0 (by omega)).1
  have h20 := h.2
  unfold impl_Net_along.f nodes
  rw [w64 (x := (w.length : Int) + 1) (by omega) (by omega), show Go.Proofs.YtgnnimhhkbbfiaaW.PrintWords.rd w 0 = w.getD 0 0 from rfl, rdArc]
  refine Ev.pos (by omega) (Ev.pos (by omega) (Ev.bnd0 rfl (Ev.pos (by omega) (Ev.pos hin.1 (Ev.pos hin.2 (Ev.pos (by simp) ?_))))))
  have h1 := ialong_loop n l w (In_drop h) (by omega) w.length 0 [(arc l (w.getD 0 0)).f0] (by omega) (by omega) (by simp)
  rw [show ((0 : Nat) : Int) = 0 from rfl, List.drop_zero] at h1
  exact h1
end Go.Proofs.Ytgnnimhhkbbfiaa.M
