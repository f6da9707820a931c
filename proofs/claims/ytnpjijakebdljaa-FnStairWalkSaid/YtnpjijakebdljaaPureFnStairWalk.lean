/- For every code: what FnStairWalk asks of stairs with regular departures holds. No condition beyond those that the statement has. -/
import Derived.Test.YtnpjijakebdljaaPrintF27
import Derived.Test.YtnpjijakebdljaaPrintF6
import Derived.Test.YtnpjijakebdljaaY
import Derived.Test.YtnpjijakebdljaaMTidy
import Derived.Test.YtnpjijakebdljaaMSteps
set_option linter.unusedVariables false
namespace Go.Proofs.Ytnpjijakebdljaa.Pure
open Go.RowKit Go.Proofs.Ytnpjijakebdljaa.Print Go.Proofs.YtnpjijakebdljaaW.PrintWords Go.Proofs.YtnpjijakebdljaaW.PrintLast Go.Proofs.YtnpjijakebdljaaY Go.Proofs.Ytnpjijakebdljaa.M
theorem drawWalk_ev (l : List Int) (hb : ∀ x ∈ l, (Lit.int .u8 x).wf = true) : ∃ a b c, Ev (fun k => spec_DrawStairWalk.f k l) (a, b, c) := by
  obtain ⟨c, hc, hcc⟩ := open_eq l hb
  obtain ⟨r1, h1, _⟩ := one_ev c hcc 0 [0, 5, 30, 199, 200] (by omega) (by omega) (by simp) (by simp)
  obtain ⟨r2, h2, _⟩ := pick_ev c hcc (0 + 1) 60 (by omega) (by omega) (by omega)
  obtain ⟨r3, h3, _⟩ := one_ev c hcc (0 + 1 + 1) [1, 7, 30, 0] (by omega) (by omega) (by simp) (by simp)
  refine ⟨r1, r2, r3, ?_⟩
  unfold spec_DrawStairWalk.f
  exact Ev.bnd0 hc (Ev.bnd h1 (Ev.bnd h2 (Ev.bnd h3 (Ev.now _))))
theorem FnStairWalk : laws_FnStairWalk.Pure := by
  intro l _ _ hb
  refine Ev.rounds (g := fun k => laws_FnStairWalk.f k l) ?_
  unfold laws_FnStairWalk.f
  refine Ev.ite (fun _ => Ev.now _) (fun _ => ?_)
  obtain ⟨long, a, every, hd⟩ := drawWalk_ev l hb
  have hlen : (walkV long a every).length ≤ 12 := by
    unfold walkV
    split
    · rename_i h; exact (wkl_spec long every h.1 h.2.1 h.2.2.2.2.1 h.2.2.2.2.2 12 a h.2.2.1).1
    · simp
  refine Ev.bnd hd (Ev.bnd (iwalk_ev long a every) (Ev.bnd (swalk_ev long a every) (Ev.bnd (wkS_ev _ (by omega)) (Ev.pos rfl ?_))))
  by_cases c0 : (walkV long a every).length = 0
  · have e : (((walkV long a every).length : Int) == 0) = true := by rw [c0]; rfl
    rw [e]
    exact Ev.step (fun k => laws_FnStairWalk.j0.eq_2 _ _ _ _ _ _) (Ev.pos rfl (Ev.bnd (swalk_ev long a every) (Ev.bnd (wkS_ev _ (by omega)) (Ev.now _))))
  · have e : (((walkV long a every).length : Int) == 0) = false := by simpa using c0
    rw [e]
    refine Ev.step (fun k => laws_FnStairWalk.j0.eq_2 _ _ _ _ _ _) (Ev.neg (by simp) ?_)
    have hg : 0 ≤ long ∧ long ≤ 199 ∧ 0 ≤ a ∧ a ≤ 199 ∧ 1 ≤ every ∧ every ≤ 199 := Classical.byContradiction fun h => c0 (by unfold walkV; rw [if_neg h]; rfl)
    have hw : walkV long a every = wkl long every 12 a := by unfold walkV; rw [if_pos hg]
    rw [hw] at hlen c0 ⊢
    obtain ⟨g0, g1, g2, g3, g4, g5⟩ := hg
    obtain ⟨s1, s2, s3, s4, s5⟩ := wkl_spec long every g0 g1 g4 g5 12 a g2
    have hst : okB (wkl long every 12 a) = true := okB_true ⟨fun x hx => (s3 x hx).1, s4, s1⟩
    generalize hs : wkl long every 12 a = s at *
    have hmul : ∀ i : Nat, i ≤ 12 → 0 ≤ (i : Int) * every ∧ (i : Int) * every ≤ 2388 := fun i hi => by
      refine ⟨Int.mul_nonneg (by omega) (by omega), ?_⟩
      have := Int.mul_le_mul (a := (i : Int)) (b := every) (c := 12) (d := 199) (by omega) (by omega) (by omega) (by omega)
      omega
    have loop : ∀ (d i : Nat), i ≤ s.length → s.length - i = d → Ev (fun k => laws_FnStairWalk.l0 k long a every s (i : Int)) true := by
      intro d
      induction d with
      | zero =>
        intro i hi hd
        refine Ev.step (fun k => laws_FnStairWalk.l0.eq_2 _ _ _ _ _ _) (Ev.neg (by omega) (Ev.bnd (iok_ev s (by omega)) (Ev.pos hst ?_)))
        rcases s2 with h | h
        · exact Ev.pos (by omega) (Ev.now _)
        · refine Ev.ite (fun _ => Ev.now _) (fun _ => Ev.now' ?_)
          have := hmul s.length (by omega)
          rw [w64 (x := (s.length : Int) * every) (by omega) (by omega), w64 (x := a + (s.length : Int) * every) (by omega) (by omega), w64 (by omega) (by omega)]
          exact decide_eq_true h
      | succ d ih =>
        intro i hi hd
        have hw : wrap64 ((i : Int) + 1) = ((i + 1 : Nat) : Int) := by rw [w64 (by omega) (by omega)]; omega
        obtain ⟨e1, e2⟩ := s5 i (by omega)
        have := hmul i (by omega)
        refine Ev.step (fun k => laws_FnStairWalk.l0.eq_2 _ _ _ _ _ _) (Ev.pos (by omega) (Ev.pos (by omega) ?_))
        rw [rdn, hw, e2, e1, w64 (x := long) (by omega) (by omega), w64 (x := (i : Int) * every) (by omega) (by omega), w64 (by omega) (by omega)]
        exact Ev.pos rfl (Ev.pos rfl (ih (i + 1) (by omega) (by omega)))
    have h := loop s.length 0 (by omega) (by omega)
    rw [show ((0 : Nat) : Int) = 0 from rfl] at h
    exact h
end Go.Proofs.Ytnpjijakebdljaa.Pure
