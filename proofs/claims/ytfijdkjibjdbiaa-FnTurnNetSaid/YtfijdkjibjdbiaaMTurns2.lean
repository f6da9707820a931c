/- What a turn costs. -/
import Derived.Test.YtfijdkjibjdbiaaY
import Derived.Test.YtfijdkjibjdbiaaMNet
import Derived.Test.YtfijdkjibjdbiaaMTurns
import Derived.Test.YtfijdkjibjdbiaaPrintB
set_option linter.unusedVariables false
set_option linter.unusedSimpArgs false
namespace Go.Proofs.Ytfijdkjibjdbiaa.M
open Go.RowKit Go.Proofs.Ytfijdkjibjdbiaa.Print Go.Proofs.YtfijdkjibjdbiaaW.PrintWords Go.Proofs.YtfijdkjibjdbiaaW.PrintLast Go.Proofs.YtfijdkjibjdbiaaY
/-- What it costs to turn from an arc to another one: what the first turn of theirs says. -/
def tCost (a b : Int) : List Tu → Int
  | [] => 0
  | x :: r => if x.f0 = a ∧ x.f1 = b then x.f2 else tCost a b r
theorem tCost_bd (a b : Int) (t : List Tu) (h : ∀ x ∈ t, -1 ≤ x.f2 ∧ x.f2 ≤ 99) : -1 ≤ tCost a b t ∧ tCost a b t ≤ 99 := by
  induction t with
  | nil => unfold tCost; omega
  | cons x r ih =>
    unfold tCost
    split
    · exact h x (List.mem_cons_self ..)
    · exact ih (fun y hy => h y (List.mem_cons_of_mem _ hy))
theorem iturning_loop (a b : Int) (t : List Tu) (ht : t.length ≤ 1000000000) (d : Nat) : ∀ i : Nat, i ≤ t.length → t.length - i = d → Ev (fun k => impl_turning.l0 k a b t (t.length : Int) (i : Int)) (tCost a b (t.drop i)) := by
  induction d with
  | zero => intro i hi hd; exact Ev.step (fun k => impl_turning.l0.eq_2 _ _ _ _ _ _) (Ev.neg (by omega) (Ev.now' (by rw [List.drop_eq_nil_of_le (by omega)]; rfl)))
  | succ d ih =>
    intro i hi hd
    refine Ev.step (fun k => impl_turning.l0.eq_2 _ _ _ _ _ _) (Ev.pos (by omega) (Ev.pos (by omega) (Ev.pos (by omega) ?_)))
    rw [rdT, nxt i (by omega), dropT t i (by omega)]
    have go := ih (i + 1) (by omega) (by omega)
    unfold tCost
    by_cases c0 : (t.getD i tuz).f0 = a
    · refine Ev.pos c0 ?_
      by_cases c1 : (t.getD i tuz).f1 = b
      · exact Ev.pos c1 (Ev.now' (by rw [if_pos ⟨c0, c1⟩]))
      · rw [if_neg (fun h => c1 h.2)]; exact Ev.neg c1 go
    · rw [if_neg (fun h => c0 h.1)]; exact Ev.neg c0 go
theorem iturning_ev (a b : Int) (t : List Tu) (ht : t.length ≤ 1000000000) : Ev (fun k => impl_turning.f k t a b) (tCost a b t) :=
  iturning_loop a b t ht t.length 0 (by omega) (by omega)
theorem scost4_loop (a b : Int) (t : List Tu) (ht : t.length ≤ 1000000000) (d : Nat) : ∀ i : Nat, i ≤ t.length → t.length - i = d → Ev (fun k => spec_l4Cost.l0 k t a b (i : Int)) (tCost a b (t.drop i)) := by
  induction d with
  | zero => intro i hi hd; exact Ev.step (fun k => spec_l4Cost.l0.eq_2 _ _ _ _ _) (Ev.neg (by omega) (Ev.now' (by rw [List.drop_eq_nil_of_le (by omega)]; rfl)))
  | succ d ih =>
    intro i hi hd
    refine Ev.step (fun k => spec_l4Cost.l0.eq_2 _ _ _ _ _) (Ev.pos (by omega) (Ev.pos (by omega) ?_))
    rw [rdT, nxt i (by omega), dropT t i (by omega)]
    have go := ih (i + 1) (by omega) (by omega)
    unfold tCost
    by_cases c0 : (t.getD i tuz).f0 = a
    · refine Ev.pos c0 ?_
      by_cases c1 : (t.getD i tuz).f1 = b
      · exact Ev.pos c1 (Ev.now' (by rw [if_pos ⟨c0, c1⟩]))
      · rw [if_neg (fun h => c1 h.2)]; exact Ev.neg c1 go
    · rw [if_neg (fun h => c0 h.1)]; exact Ev.neg c0 go
theorem scost4_ev (a b : Int) (t : List Tu) (ht : t.length ≤ 1000000000) : Ev (fun k => spec_l4Cost.f k t a b) (tCost a b t) :=
  scost4_loop a b t ht t.length 0 (by omega) (by omega)
theorem prv (i : Nat) (h1 : 1 ≤ i) (h : i ≤ 1000000000000) : wrap64 ((i : Int) - 1) = ((i - 1 : Nat) : Int) := by rw [w64 (by omega) (by omega)]; omega
end Go.Proofs.Ytfijdkjibjdbiaa.M
