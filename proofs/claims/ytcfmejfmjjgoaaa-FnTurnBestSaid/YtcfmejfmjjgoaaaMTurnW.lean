/- Walks with their turns. -/
import Derived.Test.YtcfmejfmjjgoaaaY
import Derived.Test.YtcfmejfmjjgoaaaMNet
import Derived.Test.YtcfmejfmjjgoaaaMWalk
import Derived.Test.YtcfmejfmjjgoaaaMWalk2
import Derived.Test.YtcfmejfmjjgoaaaMTurns
import Derived.Test.YtcfmejfmjjgoaaaMTurns2
import Derived.Test.YtcfmejfmjjgoaaaPrintF23
import Derived.Test.YtcfmejfmjjgoaaaPrintF24
import Derived.Test.YtcfmejfmjjgoaaaPrintF41
import Derived.Test.YtcfmejfmjjgoaaaPrintF61
import Derived.Test.YtcfmejfmjjgoaaaPrintB
import Derived.Test.YtcfmejfmjjgoaaaPrintF14
import Derived.Test.YtcfmejfmjjgoaaaPrintF25
import Derived.Test.YtcfmejfmjjgoaaaPrintF50
import Derived.Test.YtcfmejfmjjgoaaaPrintF51
import Derived.Test.YtcfmejfmjjgoaaaPrintF59
import Derived.Test.YtcfmejfmjjgoaaaPrintF60
set_option linter.unusedVariables false
set_option linter.unusedSimpArgs false
namespace Go.Proofs.Ytcfmejfmjjgoaaa.M
open Go.RowKit Go.Proofs.Ytcfmejfmjjgoaaa.Print Go.Proofs.YtcfmejfmjjgoaaaW.PrintWords Go.Proofs.YtcfmejfmjjgoaaaW.PrintLast Go.Proofs.YtcfmejfmjjgoaaaY
/-- A walk's turns, from its arc i on. -/
def tSum (t : List Tu) (w : List Int) (s : Int) (i : Nat) : Nat → Int
  | 0 => s
  | d + 1 => if tCost (w.getD (i - 1) 0) (w.getD i 0) t < 0 then -1 else tSum t w (wrap64 (s + tCost (w.getD (i - 1) 0) (w.getD i 0) t)) (i + 1) d
theorem itw_loop (t : List Tu) (w : List Int) (ht : t.length ≤ 1000000000) (hw : w.length ≤ 1000000000) (d : Nat) : ∀ (i : Nat) (s : Int), 1 ≤ i → w.length - i = d → Ev (fun k => impl_TurnWalk.l0 k t w s (i : Int)) (tSum t w s i d) := by
  induction d with
  | zero => intro i s h1 hd; exact Ev.step (fun k => impl_TurnWalk.l0.eq_2 _ _ _ _ _) (Ev.neg (by omega) (Ev.now' rfl))
  | succ d ih =>
    intro i s h1 hd
    refine Ev.step (fun k => impl_TurnWalk.l0.eq_2 _ _ _ _ _) (Ev.pos (by omega) ?_)
    rw [prv i h1 (by omega), nxt i (by omega), rdI, rdI]
    refine Ev.pos (by omega) (Ev.pos (by omega) (Ev.pos (by omega) (Ev.bnd (iturning_ev _ _ t ht) ?_)))
    unfold tSum
    by_cases c : tCost (w.getD (i - 1) 0) (w.getD i 0) t < 0
    · rw [if_pos c]; exact Ev.pos c (Ev.now _)
    · rw [if_neg c]; exact Ev.neg c (ih (i + 1) _ (by omega) (by omega))
theorem stw_loop (t : List Tu) (w : List Int) (ht : t.length ≤ 1000000000) (hw : w.length ≤ 1000000000) (d : Nat) : ∀ (i : Nat) (s : Int), 1 ≤ i → w.length - i = d → Ev (fun k => spec_l4Walk.l0 k t w s (i : Int)) (tSum t w s i d) := by
  induction d with
  | zero => intro i s h1 hd; exact Ev.step (fun k => spec_l4Walk.l0.eq_2 _ _ _ _ _) (Ev.neg (by omega) (Ev.now' rfl))
  | succ d ih =>
    intro i s h1 hd
    refine Ev.step (fun k => spec_l4Walk.l0.eq_2 _ _ _ _ _) (Ev.pos (by omega) ?_)
    rw [prv i h1 (by omega), nxt i (by omega), rdI, rdI]
    refine Ev.pos (by omega) (Ev.pos (by omega) (Ev.pos (by omega) (Ev.bnd (scost4_ev _ _ t ht) ?_)))
    unfold tSum
    by_cases c : tCost (w.getD (i - 1) 0) (w.getD i 0) t < 0
    · rw [if_pos c]; exact Ev.pos c (Ev.now _)
    · rw [if_neg c]; exact Ev.neg c (ih (i + 1) _ (by omega) (by omega))
open Classical in
noncomputable def twV (n : Int) (l : List Ar) (t : List Tu) (w : List Int) : Int := if turnsB n l t = true ∧ wB l w = true then tSum t w (costS l w) 1 (w.length - 1) else -1
theorem itw_ev (n : Int) (l : List Ar) (t : List Tu) (w : List Int) (hl : l.length ≤ 1000000000) (ht : t.length ≤ 1000000000) (hw : w.length ≤ 1000000000) : Ev (fun k => impl_TurnWalk.f k n l t w) (twV n l t w) := by
  unfold impl_TurnWalk.f twV
  have no : Ev (fun k => impl_TurnWalk.j0 k t w true n l) (-1) := Ev.step (fun k => impl_TurnWalk.j0.eq_2 _ _ _ _ _ _) (Ev.pos rfl (Ev.now _))
  refine Ev.bnd (iturns_ev n l t hl ht) ?_
  by_cases h : turnsB n l t = true
  · refine Ev.pos h (Ev.bnd (iwok_ev n l w (by omega) (by omega)) ?_)
    have hn : netOkB n l = true := by unfold turnsB at h; exact (Bool.and_eq_true_iff.1 h).1
    by_cases h2 : wB l w = true
    · rw [if_pos ⟨h, h2⟩]
      have h3 : walkB n l w = true := by unfold walkB; rw [hn, h2]; rfl
      obtain ⟨hP, hW⟩ := walkP_of h3
      rw [h3]
      exact Ev.step (fun k => impl_TurnWalk.j0.eq_2 _ _ _ _ _ _) (Ev.neg (by simp) (Ev.bnd (icost_ev n l w hP hW) (itw_loop t w ht hw (w.length - 1) 1 _ (by omega) (by omega))))
    · rw [if_neg (fun z => h2 z.2)]
      have h3 : walkB n l w = false := by unfold walkB; rw [Bool.eq_false_iff.2 h2, Bool.and_false]
      rw [h3]; exact no
  · rw [if_neg (fun z => h z.1)]; exact Ev.neg h no
theorem stw_ev (n : Int) (l : List Ar) (t : List Tu) (w : List Int) (hl : l.length ≤ 1000000000) (ht : t.length ≤ 1000000000) (hw : w.length ≤ 1000000000) : Ev (fun k => spec_TurnWalk.f k n l t w) (twV n l t w) := by
  unfold spec_TurnWalk.f twV
  refine Ev.bnd (sok1_ev n l (by omega)) ?_
  by_cases h : turnsB n l t = true
  · have hh := h
    unfold turnsB at hh
    obtain ⟨hn, h4⟩ := Bool.and_eq_true_iff.1 hh
    refine Ev.pos hn (Ev.bnd (sl4_ev n l t hl ht) (Ev.pos (by rw [Bool.and_comm]; exact h4) (Ev.bnd (swok_ev n l w (by omega) (by omega)) ?_)))
    by_cases h2 : wB l w = true
    · rw [if_pos ⟨h, h2⟩]
      have h3 : walkB n l w = true := by unfold walkB; rw [hn, h2]; rfl
      obtain ⟨hP, hW⟩ := walkP_of h3
      unfold spec_l4Walk.f
      exact Ev.pos h2 (Ev.bnd (Ev.bnd (scost_ev n l w hP hW) (stw_loop t w ht hw (w.length - 1) 1 _ (by omega) (by omega))) (Ev.now _))
    · rw [if_neg (fun z => h2 z.2)]; exact Ev.neg h2 (Ev.now _)
  · rw [if_neg (fun z => h z.1)]
    by_cases hn : netOkB n l = true
    · refine Ev.pos hn (Ev.bnd (sl4_ev n l t hl ht) (Ev.neg (fun z => h ?_) (Ev.now _)))
      unfold turnsB; rw [hn, Bool.true_and, Bool.and_comm]; exact z
    · exact Ev.neg hn (Ev.now _)
end Go.Proofs.Ytcfmejfmjjgoaaa.M
