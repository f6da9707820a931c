/- What walks cost, and their nodes. -/
import Derived.Test.YtgnnimhhkbbfiaaY
import Derived.Test.YtgnnimhhkbbfiaaMNet
import Derived.Test.YtgnnimhhkbbfiaaMInts
import Derived.Test.YtgnnimhhkbbfiaaMWalk
import Derived.Test.YtgnnimhhkbbfiaaPrintB
import Derived.Test.YtgnnimhhkbbfiaaPrintF9
set_option linter.unusedVariables false
set_option linter.unusedSimpArgs false
namespace Go.Proofs.Ytgnnimhhkbbfiaa.M
open Go.RowKit Go.Proofs.Ytgnnimhhkbbfiaa.Print Go.Proofs.YtgnnimhhkbbfiaaW.PrintWords Go.Proofs.YtgnnimhhkbbfiaaW.PrintLast Go.Proofs.YtgnnimhhkbbfiaaY
/-- What arcs cost together. -/
def costS (l : List Ar) : List Int → Int
  | [] => 0
  | k :: t => (arc l k).f2 + costS l t
theorem arc_mem {l : List Ar} {k : Int} (h : In l k) : arc l k ∈ l := by
  unfold arc
  rw [getDA l k.toNat (by have := h.1; have := h.2; omega)]
  exact List.getElem_mem _
theorem In_drop {l : List Ar} {w : List Int} (h : WalkP l w) : ∀ k ∈ w, In l k := by
  intro k hk
  obtain ⟨i, hi, rfl⟩ := List.getElem_of_mem hk
  have := (h.1 i hi).1
  rwa [getDI w i hi] at this
theorem costS_bd {n : Int} {l : List Ar} (hn : NetP n l) (w : List Int) (h : ∀ k ∈ w, In l k) : 0 ≤ costS l w ∧ costS l w ≤ 99 * w.length := by
  induction w with
  | nil => exact ⟨Int.le_refl _, by simp [costS]⟩
  | cons k t ih =>
    have h1 := hn.arc _ (arc_mem (h k List.mem_cons_self))
    have h2 := ih (fun k hk => h k (List.mem_cons_of_mem _ hk))
    unfold costS
    rw [List.length_cons]
    omega
theorem icost_loop (n : Int) (l : List Ar) (w : List Int) (hn : NetP n l) (h : ∀ k ∈ w, In l k) (hw : w.length ≤ 1000000) (d : Nat) : ∀ (i : Nat) (acc : Int), i ≤ w.length → w.length - i = d → 0 ≤ acc → acc ≤ 99 * i →
    Ev (fun k => impl_Net_cost.l0 k acc w (w.length : Int) (i : Int) n l) (acc + costS l (w.drop i)) := by
  induction d with
  | zero =>
    intro i acc hi hd h0 h1
    refine Ev.step (fun k => impl_Net_cost.l0.eq_2 _ _ _ _ _ _ _) (Ev.neg (by omega) (Ev.now' ?_))
    rw [List.drop_eq_nil_of_le (by omega)]; simp [costS]
  | succ d ih =>
    intro i acc hi hd h0 h1
    have hin : In l (w.getD i 0) := h _ (by rw [getDI w i (by omega)]; exact List.getElem_mem _)
    have hb := hn.arc _ (arc_mem hin)
    refine Ev.step (fun k => impl_Net_cost.l0.eq_2 _ _ _ _ _ _ _) (Ev.pos (by omega) (Ev.pos (by omega) (Ev.pos (by omega) ?_)))
    rw [rdI, rdArc, nxt i (by omega), w64 (x := acc + (arc l (w.getD i 0)).f2) (by omega) (by omega), dropI w i (by omega)]
    refine Ev.pos hin.1 (Ev.pos hin.2 (Ev.to (ih (i + 1) _ (by omega) (by omega) (by omega) (by omega)) ?_))
    show _ = acc + ((arc l (w.getD i 0)).f2 + costS l (w.drop (i + 1)))
    omega
theorem icost_ev (n : Int) (l : List Ar) (w : List Int) (hn : NetP n l) (h : WalkP l w) : Ev (fun k => impl_Net_cost.f k n l w) (costS l w) := by
  have h1 := icost_loop n l w hn (In_drop h) (by have := h.2; omega) w.length 0 0 (by omega) (by omega) (by omega) (by omega)
  rw [show ((0 : Nat) : Int) = 0 from rfl, List.drop_zero, Int.zero_add] at h1
  exact h1
noncomputable def costV (n : Int) (l : List Ar) (w : List Int) : Int := if walkB n l w = true then costS l w else -1
theorem walkP_of {n : Int} {l : List Ar} {w : List Int} (h : walkB n l w = true) : NetP n l ∧ WalkP l w := by
  unfold walkB at h
  rw [Bool.and_eq_true] at h
  exact ⟨netP_of h.1, wB_iff.1 h.2⟩
theorem walkB_of {n : Int} {l : List Ar} {w : List Int} (h : NetP n l) (k : WalkP l w) : walkB n l w = true := by
  unfold walkB
  rw [ok_of h, wB_iff.2 k]; rfl
theorem icostV_ev (n : Int) (l : List Ar) (w : List Int) (hl : l.length ≤ 1000000000000) (hw : w.length ≤ 1000000000000) : Ev (fun k => impl_WalkCost.f k n l w) (costV n l w) := by
  unfold impl_WalkCost.f costV
  refine Ev.bnd (iwok_ev n l w hl hw) ?_
  by_cases h : walkB n l w = true
  · rw [if_pos h]; exact Ev.pos h (Ev.bnd (icost_ev n l w (walkP_of h).1 (walkP_of h).2) (Ev.now _))
  · rw [if_neg h]; exact Ev.neg h (Ev.now _)
end Go.Proofs.Ytgnnimhhkbbfiaa.M
