/- The net of arcs: what the program and the reference make of it. -/
import Derived.Test.YtfijdkjibjdbiaaY
import Derived.Test.YtfijdkjibjdbiaaMNet
import Derived.Test.YtfijdkjibjdbiaaMTurns
import Derived.Test.YtfijdkjibjdbiaaMTurns2
import Derived.Test.YtfijdkjibjdbiaaMEdge
import Derived.Test.YtfijdkjibjdbiaaPrintF10
import Derived.Test.YtfijdkjibjdbiaaPrintF5
import Derived.Test.YtfijdkjibjdbiaaPrintF6
set_option linter.unusedVariables false
set_option linter.unusedSimpArgs false
namespace Go.Proofs.Ytfijdkjibjdbiaa.M
open Go.RowKit Go.Proofs.Ytfijdkjibjdbiaa.Print Go.Proofs.YtfijdkjibjdbiaaW.PrintWords Go.Proofs.YtfijdkjibjdbiaaW.PrintLast Go.Proofs.YtfijdkjibjdbiaaY
def tnRow (l : List Ar) (t : List Tu) (i : Nat) : Nat → Nat → List Ar
  | _, 0 => []
  | k, d + 1 => if tE l t i k = true then (⟨(i : Int), (k : Int), tW l t i k, 0, 9⟩ : Ar) :: tnRow l t i (k + 1) d else tnRow l t i (k + 1) d
def tnAll (l : List Ar) (t : List Tu) : Nat → Nat → List Ar
  | _, 0 => []
  | i, d + 1 => tnRow l t i 0 l.length ++ tnAll l t (i + 1) d
theorem tnRow_len (l : List Ar) (t : List Tu) (i : Nat) (d : Nat) : ∀ k, (tnRow l t i k d).length ≤ d := by
  induction d with
  | zero => intro k; simp [tnRow]
  | succ d ih => intro k; unfold tnRow; have := ih (k + 1); split <;> simp <;> omega
def netV (m : Int) (x : List Ar) : Int × List Ar × Bool := if netOkB m x = true then (m, x, true) else (0, [], false)
section
variable {n : Int} {l : List Ar} (hN : NetP n l) (t : List Tu) (ht : t.length ≤ 1000000000) (hb : ∀ x ∈ t, -1 ≤ x.f2 ∧ x.f2 ≤ 99)
include hN ht hb
theorem iTN_in (m : Int) (i : Nat) (hi : i < l.length) {r : Int × List Ar × Bool} (y0 y2 y3 y4 : Int) (d : Nat) : ∀ (k : Nat) (o : List Ar), k ≤ l.length → l.length - k = d → o.length + d ≤ 100000 →
    Ev (fun z => impl_TurnNet.l0 z t l (l.length : Int) ((i + 1 : Nat) : Int) n l m (o ++ tnRow l t i k d)) r →
    Ev (fun z => impl_TurnNet.l1 z t (i : Int) l (l.length : Int) (i : Int) l (l.length : Int) (k : Int) n l m o y0 (l.getD i arz).f1 y2 y3 y4) r := by
  have hfew := hN.few
  induction d with
  | zero =>
    intro k o hk hd ho h
    refine Ev.step (fun z => impl_TurnNet.l1.eq_2 _ _ _ _ _ _ _ _ _ _ _ _ _ _ _ _ _ _) (Ev.neg (by omega) ?_)
    rw [nxt i (by omega)]
    unfold tnRow at h
    rw [List.append_nil] at h
    exact h
  | succ d ih =>
    intro k o hk hd ho h
    have gk := arcAt hN k (by omega)
    have bc := tCost_bd (i : Int) (k : Int) t hb
    refine Ev.step (fun z => impl_TurnNet.l1.eq_2 _ _ _ _ _ _ _ _ _ _ _ _ _ _ _ _ _ _) (Ev.pos (by omega) (Ev.pos (by omega) (Ev.pos (by omega) (Ev.bnd (iturning_ev _ _ t ht) ?_))))
    rw [rdA, nxt k (by omega), w64 (x := tCost (i : Int) (k : Int) t + (l.getD k arz).f2) (by omega) (by omega)]
    unfold tnRow at h
    have no : tE l t i k ≠ true → Ev (fun z => impl_TurnNet.l1 z t (i : Int) l (l.length : Int) (i : Int) l (l.length : Int) ((k + 1 : Nat) : Int) n l m o y0 (l.getD i arz).f1 y2 y3 y4) r := fun c => by
      rw [if_neg c] at h
      exact ih (k + 1) o (by omega) (by omega) (by omega) h
    by_cases c0 : (l.getD k arz).f0 = (l.getD i arz).f1
    · refine Ev.pos c0 ?_
      by_cases c1 : tCost (i : Int) (k : Int) t ≥ 0
      · refine Ev.pos c1 (Ev.pos (by omega) (ih (k + 1) _ (by omega) (by omega) (by simp; omega) ?_))
        rw [if_pos (tE_iff.2 ⟨c0.symm, c1⟩)] at h
        rw [List.append_assoc]
        exact h
      · exact Ev.neg c1 (no (fun z => c1 (tE_iff.1 z).2))
    · exact Ev.neg c0 (no (fun z => c0 (tE_iff.1 z).1.symm))
theorem iTN_out (m : Int) (d : Nat) : ∀ (i : Nat) (o : List Ar), i ≤ l.length → l.length - i = d → o.length + 16 * d ≤ 50000 →
    Ev (fun z => impl_TurnNet.l0 z t l (l.length : Int) (i : Int) n l m o) (netV m (o ++ tnAll l t i d)) := by
  have hfew := hN.few
  induction d with
  | zero =>
    intro i o hi hd ho
    refine Ev.step (fun z => impl_TurnNet.l0.eq_2 _ _ _ _ _ _ _ _ _) (Ev.neg (by omega) (Ev.bnd0 (a := netOkB m o) rfl ?_))
    unfold tnAll
    rw [List.append_nil]
    by_cases c : netOkB m o = true
    · have e : netV m o = (m, o, true) := by unfold netV; rw [if_pos c]
      rw [e]; exact Ev.pos c (Ev.bnd0 (a := o) rfl (Ev.now _))
    · have e : netV m o = (0, [], false) := by unfold netV; rw [if_neg c]
      rw [e]; exact Ev.neg c (Ev.now _)
  | succ d ih =>
    intro i o hi hd ho
    have hr := tnRow_len l t i l.length 0
    refine Ev.step (fun z => impl_TurnNet.l0.eq_2 _ _ _ _ _ _ _ _ _) (Ev.pos (by omega) (Ev.pos (by omega) (Ev.pos (by omega) ?_)))
    rw [rdA]
    refine iTN_in hN t ht hb m i (by omega) _ _ _ _ l.length 0 o (by omega) (by omega) (by omega) ?_
    unfold tnAll
    rw [← List.append_assoc]
    exact ih (i + 1) _ (by omega) (by omega) (by rw [List.length_append]; omega)
theorem sTN_in (m : Int) (i : Nat) (hi : i < l.length) {r : Int × List Ar × Bool} (d : Nat) : ∀ (k : Nat) (o : List Ar), k ≤ l.length → l.length - k = d → o.length + d ≤ 100000 →
    Ev (fun z => spec_TurnNet.l0 z t ((i + 1 : Nat) : Int) n l m (o ++ tnRow l t i k d)) r → Ev (fun z => spec_TurnNet.l1 z t (i : Int) (k : Int) n l m o) r := by
  have hfew := hN.few
  induction d with
  | zero =>
    intro k o hk hd ho h
    refine Ev.step (fun z => spec_TurnNet.l1.eq_2 _ _ _ _ _ _ _ _) (Ev.neg (by omega) ?_)
    rw [nxt i (by omega)]
    unfold tnRow at h
    rw [List.append_nil] at h
    exact h
  | succ d ih =>
    intro k o hk hd ho h
    have gk := arcAt hN k (by omega)
    have bc := tCost_bd (i : Int) (k : Int) t hb
    refine Ev.step (fun z => spec_TurnNet.l1.eq_2 _ _ _ _ _ _ _ _) (Ev.pos (by omega) (Ev.bnd (scost4_ev _ _ t ht) (Ev.pos (by omega) (Ev.pos (by omega) (Ev.pos (by omega) ?_)))))
    rw [rdA, rdA, nxt k (by omega), w64 (x := tCost (i : Int) (k : Int) t + (l.getD k arz).f2) (by omega) (by omega)]
    unfold tnRow at h
    have no : tE l t i k ≠ true → Ev (fun z => spec_TurnNet.l1 z t (i : Int) ((k + 1 : Nat) : Int) n l m o) r := fun c => by
      rw [if_neg c] at h
      exact ih (k + 1) o (by omega) (by omega) (by omega) h
    by_cases c0 : (l.getD i arz).f1 = (l.getD k arz).f0
    · refine Ev.pos c0 ?_
      by_cases c1 : tCost (i : Int) (k : Int) t ≥ 0
      · refine Ev.pos c1 (Ev.neg ?_ (Ev.pos (by omega) (ih (k + 1) _ (by omega) (by omega) (by simp; omega) ?_)))
        · intro e
          have e2 : i = k := by omega
          subst e2
          exact gk.2.2.2.2.1 c0.symm
        · rw [if_pos (tE_iff.2 ⟨c0, c1⟩)] at h
          rw [List.append_assoc]
          exact h
      · exact Ev.neg c1 (no (fun z => c1 (tE_iff.1 z).2))
    · exact Ev.neg c0 (no (fun z => c0 (tE_iff.1 z).1))
theorem sTN_out (m : Int) (d : Nat) : ∀ (i : Nat) (o : List Ar), i ≤ l.length → l.length - i = d → o.length + 16 * d ≤ 50000 →
    Ev (fun z => spec_TurnNet.l0 z t (i : Int) n l m o) (netV m (o ++ tnAll l t i d)) := by
  have hfew := hN.few
  induction d with
  | zero =>
    intro i o hi hd ho
    refine Ev.step (fun z => spec_TurnNet.l0.eq_2 _ _ _ _ _ _ _) (Ev.neg (by omega) (Ev.bnd (sok1_ev m o (by omega)) ?_))
    unfold tnAll
    rw [List.append_nil]
    by_cases c : netOkB m o = true
    · have e : netV m o = (m, o, true) := by unfold netV; rw [if_pos c]
      rw [e]; exact Ev.pos c (Ev.now _)
    · have e : netV m o = (0, [], false) := by unfold netV; rw [if_neg c]
      rw [e]; exact Ev.neg c (Ev.now _)
  | succ d ih =>
    intro i o hi hd ho
    have hr := tnRow_len l t i l.length 0
    refine Ev.step (fun z => spec_TurnNet.l0.eq_2 _ _ _ _ _ _ _) (Ev.pos (by omega) ?_)
    refine sTN_in hN t ht hb m i (by omega) l.length 0 o (by omega) (by omega) (by omega) ?_
    unfold tnAll
    rw [← List.append_assoc]
    exact ih (i + 1) _ (by omega) (by omega) (by rw [List.length_append]; omega)
end
def tnetB (n : Int) (l : List Ar) (t : List Tu) : Bool := turnsB n l t && decide (1 ≤ (l.length : Int) ∧ (l.length : Int) ≤ 8)
def tnetV (n : Int) (l : List Ar) (t : List Tu) : Int × List Ar × Bool := if tnetB n l t = true then netV (l.length : Int) (tnAll l t 0 l.length) else (0, [], false)
theorem iTurnNet_ev (n : Int) (l : List Ar) (t : List Tu) (hl : l.length ≤ 1000000000) (ht : t.length ≤ 1000000000) : Ev (fun k => impl_TurnNet.f k n l t) (tnetV n l t) := by
  unfold impl_TurnNet.f tnetV tnetB
  have no : Ev (fun k => impl_TurnNet.j0 k t true n l) (0, [], false) := Ev.step (fun k => impl_TurnNet.j0.eq_2 _ _ _ _ _) (Ev.pos rfl (Ev.now _))
  refine Ev.bnd (iturns_ev n l t hl ht) ?_
  by_cases h : turnsB n l t = true
  · have hN := netP_of (turns_net h)
    have hfew := hN.few
    refine Ev.pos h (Ev.bnd0 (iw _ _ _) ?_)
    rw [h, Bool.true_and]
    by_cases c : 1 ≤ (l.length : Int) ∧ (l.length : Int) ≤ 8
    · rw [decide_eq_true c, if_pos rfl]
      exact Ev.step (fun k => impl_TurnNet.j0.eq_2 _ _ _ _ _) (Ev.neg (by simp) (iTN_out hN t ht (fun x hx => (turns_in h x hx).2.2.2.2.2) _ l.length 0 [] (by omega) (by omega) (by simp; omega)))
    · rw [decide_eq_false c, if_neg (by simp)]
      exact no
  · rw [Bool.eq_false_iff.2 h, Bool.false_and, if_neg (by simp)]
    exact Ev.neg (by simp) no
theorem sTurnNet_ev (n : Int) (l : List Ar) (t : List Tu) (hl : l.length ≤ 1000000000) (ht : t.length ≤ 1000000000) : Ev (fun k => spec_TurnNet.f k n l t) (tnetV n l t) := by
  unfold spec_TurnNet.f tnetV tnetB
  have no : Ev (fun k => spec_TurnNet.j0 k t true n l) (0, [], false) := Ev.step (fun k => spec_TurnNet.j0.eq_2 _ _ _ _ _) (Ev.pos rfl (Ev.now _))
  refine Ev.bnd (sok1_ev n l (by omega)) ?_
  by_cases h : turnsB n l t = true
  · have hN := netP_of (turns_net h)
    have hfew := hN.few
    have hh := h
    unfold turnsB at hh
    obtain ⟨hn, h4⟩ := Bool.and_eq_true_iff.1 hh
    refine Ev.pos hn (Ev.bnd (sl4_ev n l t hl ht) (Ev.pos (by rw [Bool.and_comm]; exact h4) (Ev.bnd0 (nIn _ _ _) ?_)))
    rw [h, Bool.true_and]
    by_cases c : 1 ≤ (l.length : Int) ∧ (l.length : Int) ≤ 8
    · rw [decide_eq_true c, if_pos rfl]
      exact Ev.step (fun k => spec_TurnNet.j0.eq_2 _ _ _ _ _) (Ev.neg (by simp) (sTN_out hN t ht (fun x hx => (turns_in h x hx).2.2.2.2.2) _ l.length 0 [] (by omega) (by omega) (by simp; omega)))
    · rw [decide_eq_false c, if_neg (by simp)]
      exact no
  · have hf : turnsB n l t = false := Bool.eq_false_iff.2 h
    rw [hf, Bool.false_and, if_neg (by simp)]
    by_cases hn : netOkB n l = true
    · refine Ev.pos hn (Ev.bnd (sl4_ev n l t hl ht) (Ev.neg (fun z => h ?_) no))
      unfold turnsB; rw [hn, Bool.true_and, Bool.and_comm]; exact z
    · exact Ev.neg hn no
theorem tnRow_mem (l : List Ar) (t : List Tu) (i d : Nat) : ∀ k, (tnRow l t i k d).length ≤ d := fun k => tnRow_len l t i d k
theorem tnetV_len (n : Int) (l : List Ar) (t : List Tu) : (tnetV n l t).2.1.length ≤ 16 := by
  unfold tnetV netV
  split
  · split
    · rename_i h
      exact (netP_of h).few
    · simp
  · simp
end Go.Proofs.Ytfijdkjibjdbiaa.M
