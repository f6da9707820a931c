/- Two stairs drawn; steps drawn. -/
import Derived.Test.YtfpfaaibgaejjaaY
import Derived.Test.YtfpfaaibgaejjaaMDraw
import Derived.Test.YtfpfaaibgaejjaaMTidy
import Derived.Test.YtfpfaaibgaejjaaPrintF20
import Derived.Test.YtfpfaaibgaejjaaPrintF24
import Derived.Test.YtfpfaaibgaejjaaPrintF29
set_option linter.unusedVariables false
namespace Go.Proofs.Ytfpfaaibgaejjaa.M
open Go.RowKit Go.Proofs.Ytfpfaaibgaejjaa.Print Go.Proofs.YtfpfaaibgaejjaaW.PrintWords Go.Proofs.YtfpfaaibgaejjaaW.PrintLast Go.Proofs.YtfpfaaibgaejjaaY
theorem drawLink_ev (l : List Int) (hb : ∀ x ∈ l, (Lit.int .u8 x).wf = true) : ∃ a b, Ev (fun k => spec_DrawStairLink.f k l) (a, b) ∧ a.length ≤ 201 ∧ b.length ≤ 201 := by
  obtain ⟨c, hc, hcc⟩ := open_eq l hb
  obtain ⟨a, q, ho, hn, q0, q1⟩ := anyStair_ev c hcc 0 (by omega) (by omega)
  obtain ⟨b, q', ho', hn', _, _⟩ := anyStair_ev c hcc q (by omega) (by omega)
  refine ⟨a, b, ?_, hn, hn'⟩
  unfold spec_DrawStairLink.f
  exact Ev.bnd0 hc (Ev.bnd ho (Ev.bnd ho' (Ev.now _)))
theorem drawBest_ev (l : List Int) (hb : ∀ x ∈ l, (Lit.int .u8 x).wf = true) : ∃ a b, Ev (fun k => spec_DrawStairBest.f k l) (a, b) ∧ a.length ≤ 201 ∧ b.length ≤ 201 := by
  obtain ⟨a, b, h, ha, hb'⟩ := drawLink_ev l hb
  exact ⟨a, b, Ev.bnd h (Ev.now _), ha, hb'⟩
theorem drawOf_ev (l : List Int) (hb : ∀ x ∈ l, (Lit.int .u8 x).wf = true) : ∃ s, Ev (fun k => spec_DrawStairOf.f k l) s ∧ s.length ≤ 101 := by
  obtain ⟨c, hc, hcc⟩ := open_eq l hb
  obtain ⟨r1, h1, m1⟩ := one_ev c hcc 0 [3, 8, 20] (by omega) (by omega) (by simp) (by simp)
  have hr1 : r1 = 3 ∨ r1 = 8 ∨ r1 = 20 := by simpa using m1
  obtain ⟨n, hn, hn2⟩ : ∃ n : Nat, r1 = (n : Int) ∧ n ≤ 100 := ⟨r1.toNat, by omega, by omega⟩
  subst hn
  obtain ⟨out, p, hs, hl, _, p0, p1⟩ := steps_ev c hcc (0 + 1) n (by omega) (by omega) hn2
  obtain ⟨r2, h2, q0, q1, _⟩ := pick_ev c hcc p 12 (by omega) (by omega) (by omega)
  unfold spec_DrawStairOf.f
  by_cases c0 : r2 = 0
  · obtain ⟨r3, h3, _⟩ := one_ev c hcc (p + 1) [-1, 50] (by omega) (by omega) (by simp) (by simp)
    exact ⟨out ++ [⟨r3, 40⟩], Ev.bnd0 hc (Ev.bnd h1 (Ev.bnd hs (Ev.bnd h2 (Ev.pos c0 (Ev.bnd h3 (Ev.pos (show out.length < 8796093022208 by omega) (Ev.now _))))))), by simp; omega⟩
  · exact ⟨out, Ev.bnd0 hc (Ev.bnd h1 (Ev.bnd hs (Ev.bnd h2 (Ev.neg c0 (Ev.now _))))), by omega⟩
end Go.Proofs.Ytfpfaaibgaejjaa.M
