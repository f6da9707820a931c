/- Walks with their turns. -/
import Derived.Test.YtcfmejfmjjgoaaaY
import Derived.Test.YtcfmejfmjjgoaaaMNet
import Derived.Test.YtcfmejfmjjgoaaaMWalk
import Derived.Test.YtcfmejfmjjgoaaaMWalk2
import Derived.Test.YtcfmejfmjjgoaaaMTurns
import Derived.Test.YtcfmejfmjjgoaaaPrintB
import Derived.Test.YtcfmejfmjjgoaaaPrintF23
import Derived.Test.YtcfmejfmjjgoaaaPrintF24
import Derived.Test.YtcfmejfmjjgoaaaPrintF41
import Derived.Test.YtcfmejfmjjgoaaaPrintF59
import Derived.Test.YtcfmejfmjjgoaaaPrintF61
set_option linter.unusedVariables false
set_option linter.unusedSimpArgs false
namespace Go.Proofs.Ytcfmejfmjjgoaaa.M
open Go.RowKit Go.Proofs.Ytcfmejfmjjgoaaa.Print Go.Proofs.YtcfmejfmjjgoaaaW.PrintWords Go.Proofs.YtcfmejfmjjgoaaaW.PrintLast Go.Proofs.YtcfmejfmjjgoaaaY
/-- What it costs to turn from an arc to another one: what the first turn of theirs says. -/
def tCost (a b : Int) : List Tu → Int
  | [] => 0
  | x :: r => if x.f0 = a ∧ x.f1 = b then x.f2 else tCost a b r
theorem tCost_bd (a b : Int) (t : List Tu) (h : ∀ x ∈ t, -1 ≤ x.f2 ∧ x.f2 ≤ 99) : -1 ≤ tCost a b t ∧ tCost a b t ≤ 99 := by
  induction t with
  | nil => unfold tCost; omega
  | cons x r ih =>
    unfold tCost
    split
    · exact h x (List.mem_cons_self ..)
    · exact ih (fun y hy => h y (List.mem_cons_of_mem _ hy))
theorem iturning_loop (a b : Int) (t : List Tu) (ht : t.length ≤ 1000000000) (d : Nat) : ∀ i : Nat, i ≤ t.length → t.length - i = d → Ev (fun k => impl_turning.l0 k a b t (t.length : Int) (i : Int)) (tCost a b (t.drop i)) := by
  induction d with
  | zero => intro i hi hd; exact Ev.step (fun k => impl_turning.l0.eq_2 _ _ _ _ _ _) (Ev.neg (by omega) (Ev.now' (by rw [List.drop_eq_nil_of_le (by omega)]; rfl)))
  | succ d ih =>
    intro i hi hd
    refine Ev.step (fun k => impl_turning.l0.eq_2 _ _ _ _ _ _) (Ev.pos (by omega) (Ev.pos (by omega) (Ev.pos (by omega) ?_)))
    rw [rdT, nxt i (by omega), dropT t i (by omega)]
    have go := ih (i + 1) (by omega) (by omega)
    unfold tCost
    by_cases c0 : (t.getD i tuz).f0 = a
    · refine Ev.pos c0 ?_
      by_cases c1 : (t.getD i tuz).f1 = b
      · exact Ev.pos c1 (Ev.now' (by rw [if_pos ⟨c0, c1⟩]))
      · rw [if_neg (fun h => c1 h.2)]; exact Ev.neg c1 go
    · rw [if_neg (fun h => c0 h.1)]; exact Ev.neg c0 go
theorem iturning_ev (a b : Int) (t : List Tu) (ht : t.length ≤ 1000000000) : Ev (fun k => impl_turning.f k t a b) (tCost a b t) :=
  iturning_loop a b t ht t.length 0 (by omega) (by omega)
theorem scost4_loop (a b : Int) (t : List Tu) (ht : t.length ≤ 1000000000) (d : Nat) : ∀ i : Nat, i ≤ t.length → t.length - i = d → Ev (fun k => spec_l4Cost.l0 k t a b (i : Int)) (tCost a b (t.drop i)) := by
  induction d with
  | zero => intro i hi hd; exact Ev.step (fun k => spec_l4Cost.l0.eq_2 _ _ _ _ _) (Ev.neg (by omega) (Ev.now' (by rw [List.drop_eq_nil_of_le (by omega)]; rfl)))
  | succ d ih =>
    intro i hi hd
    refine Ev.step (fun k => spec_l4Cost.l0.eq_2 _ _ _ _ _) (Ev.pos (by omega) (Ev.pos (by omega) ?_))
    rw [rdT, nxt i (by omega), dropT t i (by omega)]
    have go := ih (i + 1) (by omega) (by omega)
    unfold tCost
    by_cases c0 : (t.getD i tuz).f0 = a
    · refine Ev.pos c0 ?_
      by_cases c1 : (t.getD i tuz).f1 = b
      · exact Ev.pos c1 (Ev.now' (by rw [if_pos ⟨c0, c1⟩]))
      · rw [if_neg (fun h => c1 h.2)]; exact Ev.neg c1 go
    · rw [if_neg (fun h => c0 h.1)]; exact Ev.neg c0 go
theorem scost4_ev (a b : Int) (t : List Tu) (ht : t.length ≤ 1000000000) : Ev (fun k => spec_l4Cost.f k t a b) (tCost a b t) :=
  scost4_loop a b t ht t.length 0 (by omega) (by omega)
/-- A walk's turns, from its arc i on. -/
def tSum (t : List Tu) (w : List Int) (s : Int) (i : Nat) : Nat → Int
  | 0 => s
  | d + 1 => if tCost (w.getD (i - 1) 0) (w.getD i 0) t < 0 then -1 else tSum t w (wrap64 (s + tCost (w.getD (i - 1) 0) (w.getD i 0) t)) (i + 1) d
theorem prv (i : Nat) (h1 : 1 ≤ i) (h : i ≤ 1000000000000) : wrap64 ((i : Int) - 1) = ((i - 1 : Nat) : Int) := by rw [w64 (by omega) (by omega)]; omega
theorem itw_loop (t : List Tu) (w : List Int) (ht : t.length ≤ 1000000000) (hw : w.length ≤ 1000000000) (d : Nat) : ∀ (i : Nat) (s : Int), 1 ≤ i → w.length - i = d → Ev (fun k => impl_TurnWalk.l0 k t w s (i : Int)) (tSum t w s i d) := by
  induction d with
  | zero => intro i s h1 hd; exact Ev.step (fun k => impl_TurnWalk.l0.eq_2 _ _ _ _ _) (Ev.neg (by omega) (Ev.now' rfl))
  | succ d ih =>
    intro i s h1 hd
    refine Ev.step (fun k => impl_TurnWalk.l0.eq_2 _ _ _ _ _) (Ev.pos (by omega) ?_)
    rw [prv i h1 (by omega), nxt i (by omega), rdI, rdI]
    refine Ev.pos (by omega) (Ev.pos (by omega) (Ev.pos (by omega) (Ev.bnd (iturning_ev _ _ t ht) ?_)))
    unfold tSum
    by_cases c : tCost (w.getD (i - 1) 0) (w.getD i 0) t < 0
    · rw [if_pos c]; exact Ev.pos c (Ev.now _)
    · rw [if_neg c]; exact Ev.neg c (ih (i + 1) _ (by omega) (by omega))
theorem stw_loop (t : List Tu) (w : List Int) (ht : t.length ≤ 1000000000) (hw : w.length ≤ 1000000000) (d : Nat) : ∀ (i : Nat) (s : Int), 1 ≤ i → w.length - i = d → Ev (fun k => spec_l4Walk.l0 k t w s (i : Int)) (tSum t w s i d) := by
  induction d with
  | zero => intro i s h1 hd; exact Ev.step (fun k => spec_l4Walk.l0.eq_2 _ _ _ _ _) (Ev.neg (by omega) (Ev.now' rfl))
  | succ d ih =>
    intro i s h1 hd
    refine Ev.step (fun k => spec_l4Walk.l0.eq_2 _ _ _ _ _) (Ev.pos (by omega) ?_)
    rw [prv i h1 (by omega), nxt i (by omega), rdI, rdI]
    refine Ev.pos (by omega) (Ev.pos (by omega) (Ev.pos (by omega) (Ev.bnd (scost4_ev _ _ t ht) ?_)))
    unfold tSum
    by_cases c : tCost (w.getD (i - 1) 0) (w.getD i 0) t < 0
    · rw [if_pos c]; exact Ev.pos c (Ev.now _)
    · rw [if_neg c]; exact Ev.neg c (ih (i + 1) _ (by omega) (by omega))
open Classical in
noncomputable def twV (n : Int) (l : List Ar) (t : List Tu) (w : List Int) : Int := if turnsB n l t = true ∧ wB l w = true then tSum t w (costS l w) 1 (w.length - 1) else -1
theorem itw_ev (n : Int) (l : List Ar) (t : List Tu) (w : List Int) (hl : l.length ≤ 1000000000) (ht : t.length ≤ 1000000000) (hw : w.length ≤ 1000000000) : Ev (fun k => impl_TurnWalk.f k n l t w) (twV n l t w) := by
  unfold impl_TurnWalk.f twV
  have no : Ev (fun k => impl_TurnWalk.j0 k t w true n l) (-1) := Ev.step (fun k => impl_TurnWalk.j0.eq_2 _ _ _ _ _ _) (Ev.pos rfl (Ev.now _))
  refine Ev.bnd (iturns_ev n l t hl ht) ?_
  by_cases h : turnsB n l t = true
  · refine Ev.pos h (Ev.bnd (iwok_ev n l w (by omega) (by omega)) ?_)
    have hn : netOkB n l = true := by unfold turnsB at h; exact (Bool.and_eq_true_iff.1 h).1
    by_cases h2 : wB l w = true
    · rw [if_pos ⟨h, h2⟩]
      have h3 : walkB n l w = true := by unfold walkB; rw [hn, h2]; rfl
      obtain ⟨hP, hW⟩ := walkP_of h3
      rw [h3]
      exact Ev.step (fun k => impl_TurnWalk.j0.eq_2 _ _ _ _ _ _) (Ev.neg (by simp) (Ev.bnd (icost_ev n l w hP hW) (itw_loop t w ht hw (w.length - 1) 1 _ (by omega) (by omega))))
    · rw [if_neg (fun z => h2 z.2)]
      have h3 : walkB n l w = false := by unfold walkB; rw [Bool.eq_false_iff.2 h2, Bool.and_false]
      rw [h3]; exact no
  · rw [if_neg (fun z => h z.1)]; exact Ev.neg h no
theorem stw_ev (n : Int) (l : List Ar) (t : List Tu) (w : List Int) (hl : l.length ≤ 1000000000) (ht : t.length ≤ 1000000000) (hw : w.length ≤ 1000000000) : Ev (fun k => spec_TurnWalk.f k n l t w) (twV n l t w) := by
  unfold spec_TurnWalk.f twV
  refine Ev.bnd (sok1_ev n l (by omega)) ?_
  by_cases h : turnsB n l t = true
  · have hh := h
    unfold turnsB at hh
    obtain ⟨hn, h4⟩ := Bool.and_eq_true_iff.1 hh
    refine Ev.pos hn (Ev.bnd (sl4_ev n l t hl ht) (Ev.pos (by rw [Bool.and_comm]; exact h4) (Ev.bnd (swok_ev n l w (by omega) (by omega)) ?_)))
    by_cases h2 : wB l w = true
    · rw [if_pos ⟨h, h2⟩]
      have h3 : walkB n l w = true := by unfold walkB; rw [hn, h2]; rfl
      obtain ⟨hP, hW⟩ := walkP_of h3
      unfold spec_l4Walk.f
      exact Ev.pos h2 (Ev.bnd (Ev.bnd (scost_ev n l w hP hW) (stw_loop t w ht hw (w.length - 1) 1 _ (by omega) (by omega))) (Ev.now _))
    · rw [if_neg (fun z => h2 z.2)]; exact Ev.neg h2 (Ev.now _)
  · rw [if_neg (fun z => h z.1)]
    by_cases hn : netOkB n l = true
    · refine Ev.pos hn (Ev.bnd (sl4_ev n l t hl ht) (Ev.neg (fun z => h ?_) (Ev.now _)))
      unfold turnsB; rw [hn, Bool.true_and, Bool.and_comm]; exact z
    · exact Ev.neg hn (Ev.now _)
end Go.Proofs.Ytcfmejfmjjgoaaa.M
