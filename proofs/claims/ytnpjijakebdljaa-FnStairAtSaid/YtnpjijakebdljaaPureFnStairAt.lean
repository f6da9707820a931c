/- For every code: what FnStairAt asks of stairs holds. No condition beyond those that the statement has. -/
import Derived.Test.YtnpjijakebdljaaPrintF9
import Derived.Test.YtnpjijakebdljaaY
import Derived.Test.YtnpjijakebdljaaMTidy
import Derived.Test.YtnpjijakebdljaaMStairLaws
set_option linter.unusedVariables false
namespace Go.Proofs.Ytnpjijakebdljaa.Pure
open Go.RowKit Go.Proofs.Ytnpjijakebdljaa.Print Go.Proofs.YtnpjijakebdljaaW.PrintWords Go.Proofs.YtnpjijakebdljaaW.PrintLast Go.Proofs.YtnpjijakebdljaaY Go.Proofs.Ytnpjijakebdljaa.M
theorem at_loop (s : List St) (a : Int) (hok : okB s = true) (hl : s.length ≤ 1000) (ha0 : -1 ≤ a) (ha : a ≤ 78) (d : Nat) : ∀ (i : Nat) (is : Bool), i ≤ s.length → s.length - i = d → (is = true ∨ ∃ x ∈ s.drop i, x.f0 ≥ a ∧ x.f1 = arr a s) →
    Ev (fun k => laws_FnStairAt.l0 k s a (arr a s) is (i : Int)) true := by
  have hs := stair_of_ok hok
  induction d with
  | zero =>
    intro i is hi hd hx
    rw [List.drop_eq_nil_of_le (by omega)] at hx
    have his : is = true := hx.elim id (fun ⟨x, hx, _⟩ => by simp at hx)
    subst his
    refine Ev.step (fun k => laws_FnStairAt.l0.eq_2 _ _ _ _ _ _) (Ev.neg (by omega) (Ev.pos rfl (Ev.pos (arr_ge hs (by omega)) ?_)))
    rw [w64 (x := a + 1) (by omega) (by omega)]
    refine Ev.bnd (iat_ev (a + 1) s (by omega)) (Ev.now' ?_)
    rw [atV_ok hok]
    exact decide_eq_true (arr_mono hs (by omega))
  | succ d ih =>
    intro i is hi hd hx
    have hw : wrap64 ((i : Int) + 1) = ((i + 1 : Nat) : Int) := by rw [w64 (by omega) (by omega)]; omega
    have hg := getD_lt s i (by omega)
    rw [drop_cons s i (by omega)] at hx
    have hmin : (s.getD i stz).f0 ≥ a → ¬ (s.getD i stz).f1 < arr a s := fun h => by
      have := arr_min a s hs.2.1 (s.getD i stz) (by rw [hg]; exact List.getElem_mem _) h
      omega
    have hx2 : is = true ∨ ((s.getD i stz).f0 ≥ a ∧ (s.getD i stz).f1 = arr a s) ∨ ∃ x ∈ s.drop (i + 1), x.f0 ≥ a ∧ x.f1 = arr a s := by
      rcases hx with h | ⟨x, hx, h⟩
      · exact .inl h
      · rcases List.mem_cons.1 hx with rfl | hx
        · exact .inr (.inl h)
        · exact .inr (.inr ⟨x, hx, h⟩)
    cases is with
    | true =>
      refine Ev.step (fun k => laws_FnStairAt.l0.eq_2 _ _ _ _ _ _) (Ev.pos (by omega) (Ev.pos rfl (Ev.pos (by omega) ?_)))
      rw [rdn, hw]
      refine Ev.ite (fun h => Ev.neg (hmin h) (ih (i + 1) true (by omega) (by omega) (.inl rfl))) (fun _ => ih (i + 1) true (by omega) (by omega) (.inl rfl))
    | false =>
      refine Ev.step (fun k => laws_FnStairAt.l0.eq_2 _ _ _ _ _ _) (Ev.pos (by omega) (Ev.neg (by simp) (Ev.pos (by omega) ?_)))
      rw [rdn, hw]
      refine Ev.ite (fun h => Ev.neg (hmin h) (ih (i + 1) _ (by omega) (by omega) ?_)) (fun h => ih (i + 1) false (by omega) (by omega) ?_)
      · rcases hx2 with h2 | ⟨_, h2⟩ | h2
        · cases h2
        · exact .inl (by rw [h2]; simp)
        · exact .inr h2
      · rcases hx2 with h2 | ⟨h3, _⟩ | h2
        · cases h2
        · exact absurd h3 h
        · exact .inr h2
theorem FnStairAt : laws_FnStairAt.Pure := by
  intro l _ _ hb
  refine Ev.rounds (g := fun k => laws_FnStairAt.f k l) ?_
  unfold laws_FnStairAt.f
  refine Ev.ite (fun _ => Ev.now _) (fun _ => ?_)
  obtain ⟨s, a, hd, hl, ha0, ha⟩ := drawAt_ev l hb
  have hl2 : s.length ≤ 1000000000000 := by omega
  refine Ev.bnd hd (Ev.bnd (iat_ev a s hl2) (Ev.bnd (sat_ev a s hl2) (Ev.pos rfl (Ev.bnd (iok_ev s hl2) (Ev.bnd (sok2_ev s hl2) (Ev.neg (by simp) (Ev.bnd (iok_ev s hl2) ?_)))))))
  cases hok : okB s with
  | false =>
    refine Ev.step (fun k => laws_FnStairAt.j0.eq_2 _ _ _ _ _) (Ev.pos rfl (Ev.bnd (sat_ev a s hl2) (Ev.pos rfl (Ev.bnd (iok_ev s hl2) (Ev.bnd (sok2_ev s hl2) (Ev.now' (by simp)))))))
  | true =>
    refine Ev.step (fun k => laws_FnStairAt.j0.eq_2 _ _ _ _ _) (Ev.neg (by simp) ?_)
    rw [atV_ok hok]
    have h := at_loop s a hok (by omega) ha0 ha s.length 0 (arr a s == 99999) (by omega) (by omega) (by
      rw [List.drop_zero]
      rcases arr_cases a s with ⟨h, _⟩ | ⟨x, hx, h0, h⟩
      · exact .inl (by rw [h]; rfl)
      · exact .inr ⟨x, hx, h0, h.symm⟩)
    rw [show ((0 : Nat) : Int) = 0 from rfl] at h
    exact h
end Go.Proofs.Ytnpjijakebdljaa.Pure
