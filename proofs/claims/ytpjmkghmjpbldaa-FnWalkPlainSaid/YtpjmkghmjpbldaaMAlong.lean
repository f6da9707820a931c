/- The nodes of a walk. -/
import Derived.Test.YtpjmkghmjpbldaaY
import Derived.Test.YtpjmkghmjpbldaaMNet
import Derived.Test.YtpjmkghmjpbldaaMWalk
import Derived.Test.YtpjmkghmjpbldaaMWalk2
import Derived.Test.YtpjmkghmjpbldaaPrintF50
import Derived.Test.YtpjmkghmjpbldaaPrintF51
import Derived.Test.YtpjmkghmjpbldaaPrintF86
import Derived.Test.YtpjmkghmjpbldaaPrintF87
set_option linter.unusedVariables false
set_option linter.unusedSimpArgs false
namespace Go.Proofs.Ytpjmkghmjpbldaa.M
open Go.RowKit Go.Proofs.Ytpjmkghmjpbldaa.Print Go.Proofs.YtpjmkghmjpbldaaW.PrintWords Go.Proofs.YtpjmkghmjpbldaaW.PrintLast Go.Proofs.YtpjmkghmjpbldaaY
def tos (l : List Ar) (w : List Int) : List Int := w.map fun k => (arc l k).f1
theorem ialong_loop (n : Int) (l : List Ar) (w : List Int) (h : ∀ k ∈ w, In l k) (hw : w.length ≤ 1000000) (d : Nat) : ∀ (i : Nat) (out : List Int), i ≤ w.length → w.length - i = d → out.length ≤ 1000 + i →
    Ev (fun k => impl_Net_along.l0 k out w (w.length : Int) (i : Int) n l) (out ++ tos l (w.drop i)) := by
  induction d with
  | zero =>
    intro i out hi hd ho
    refine Ev.step (fun k => impl_Net_along.l0.eq_2 _ _ _ _ _ _ _) (Ev.neg (by omega) (Ev.now' ?_))
    rw [List.drop_eq_nil_of_le (by omega)]; simp [tos]
  | succ d ih =>
    intro i out hi hd ho
    have hin : In l (w.getD i 0) := h _ (by rw [getDI w i (by omega)]; exact List.getElem_mem _)
    refine Ev.step (fun k => impl_Net_along.l0.eq_2 _ _ _ _ _ _ _) (Ev.pos (by omega) (Ev.pos (by omega) (Ev.pos (by omega) ?_)))
    rw [rdI, rdArc, nxt i (by omega), dropI w i (by omega)]
    refine Ev.pos hin.1 (Ev.pos hin.2 (Ev.pos (by omega) (Ev.to (ih (i + 1) _ (by omega) (by omega) (by rw [List.length_append, List.length_singleton]; omega)) ?_)))
    rw [List.append_assoc]; rfl
/-- A walk's nodes. -/
def nodes (l : List Ar) (w : List Int) : List Int := (arc l (w.getD 0 0)).f0 :: tos l w
theorem ialong_ev (n : Int) (l : List Ar) (w : List Int) (h : WalkP l w) (h0 : w.length ≠ 0) : Ev (fun k => impl_Net_along.f k n l w) (nodes l w) := by
  have hin : In l (w.getD 0 0) := (h.1 0 (by omega)).1
  have h20 := h.2
  unfold impl_Net_along.f nodes
  rw [w64 (x := (w.length : Int) + 1) (by omega) (by omega), show Go.Proofs.YtpjmkghmjpbldaaW.PrintWords.rd w 0 = w.getD 0 0 from rfl, rdArc]
  refine Ev.pos (by omega) (Ev.pos (by omega) (Ev.bnd0 rfl (Ev.pos (by omega) (Ev.pos hin.1 (Ev.pos hin.2 (Ev.pos (by simp) ?_))))))
  have h1 := ialong_loop n l w (In_drop h) (by omega) w.length 0 [(arc l (w.getD 0 0)).f0] (by omega) (by omega) (by simp)
  rw [show ((0 : Nat) : Int) = 0 from rfl, List.drop_zero] at h1
  exact h1
theorem snodes_loop (n : Int) (l : List Ar) (w : List Int) (h : ∀ k ∈ w, In l k) (hw : w.length ≤ 1000000) (d : Nat) : ∀ (i : Nat) (out : List Int), i ≤ w.length → w.length - i = d → out.length ≤ 1000 + i →
    Ev (fun k => spec_l2Nodes.l0 k w out (i : Int) n l) (out ++ tos l (w.drop i)) := by
  induction d with
  | zero =>
    intro i out hi hd ho
    refine Ev.step (fun k => spec_l2Nodes.l0.eq_2 _ _ _ _ _ _) (Ev.neg (by omega) (Ev.now' ?_))
    rw [List.drop_eq_nil_of_le (by omega)]; simp [tos]
  | succ d ih =>
    intro i out hi hd ho
    have hin : In l (w.getD i 0) := h _ (by rw [getDI w i (by omega)]; exact List.getElem_mem _)
    refine Ev.step (fun k => spec_l2Nodes.l0.eq_2 _ _ _ _ _ _) (Ev.pos (by omega) (Ev.pos (by omega) ?_))
    rw [rdI, rdArc, nxt i (by omega), dropI w i (by omega)]
    refine Ev.pos hin.1 (Ev.pos hin.2 (Ev.pos (by omega) (Ev.to (ih (i + 1) _ (by omega) (by omega) (by rw [List.length_append, List.length_singleton]; omega)) ?_)))
    rw [List.append_assoc]; rfl
noncomputable def nodesV (n : Int) (l : List Ar) (w : List Int) : List Int := if walkB n l w = true ∧ w.length ≠ 0 then nodes l w else []
theorem inodesV_ev (n : Int) (l : List Ar) (w : List Int) (hl : l.length ≤ 1000000000000) (hw : w.length ≤ 1000000000000) : Ev (fun k => impl_WalkNodes.f k n l w) (nodesV n l w) := by
  unfold impl_WalkNodes.f nodesV
  refine Ev.bnd (iwok_ev n l w hl hw) ?_
  by_cases h : walkB n l w = true
  · refine Ev.pos h ?_
    by_cases h0 : w.length = 0
    · rw [if_neg (fun h => h.2 h0)]; exact Ev.pos (by omega) (Ev.now _)
    · rw [if_pos ⟨h, h0⟩]; exact Ev.neg (by omega) (Ev.bnd (ialong_ev n l w (walkP_of h).2 h0) (Ev.now _))
  · rw [if_neg (fun k => h k.1)]; exact Ev.neg h (Ev.now _)
theorem snodesV_ev (n : Int) (l : List Ar) (w : List Int) (hl : l.length ≤ 1000000000000) (hw : w.length ≤ 1000000000000) : Ev (fun k => spec_WalkNodes.f k n l w) (nodesV n l w) := by
  unfold spec_WalkNodes.f nodesV
  refine two_ev n l w hl hw (fun h => ?_) (fun h => by rw [if_neg (fun k => h k.1)]; exact Ev.now _)
  have hp := (walkP_of h).2
  have h20 := hp.2
  by_cases h0 : w.length = 0
  · rw [if_neg (fun h => h.2 h0)]; exact Ev.pos (by omega) (Ev.now _)
  · rw [if_pos ⟨h, h0⟩]
    have hin : In l (w.getD 0 0) := (hp.1 0 (by omega)).1
    rw [show Go.Proofs.YtpjmkghmjpbldaaW.PrintWords.rd w 0 = w.getD 0 0 from rfl, rdArc]
    refine Ev.neg (by omega) (Ev.pos (by omega) (Ev.pos hin.1 (Ev.pos hin.2 (Ev.bnd ?_ (Ev.now _)))))
    have h1 := snodes_loop n l w (In_drop hp) (by omega) w.length 0 [(arc l (w.getD 0 0)).f0] (by omega) (by omega) (by simp)
    rw [show ((0 : Nat) : Int) = 0 from rfl, List.drop_zero] at h1
    exact h1
end Go.Proofs.Ytpjmkghmjpbldaa.M
