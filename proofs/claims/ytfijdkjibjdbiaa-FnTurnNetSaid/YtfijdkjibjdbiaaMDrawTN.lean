/- What is drawn as a net and turns for the net of arcs. -/
import Derived.Test.YtfijdkjibjdbiaaY
import Derived.Test.YtfijdkjibjdbiaaMDraw
import Derived.Test.YtfijdkjibjdbiaaMDrawNet
import Derived.Test.YtfijdkjibjdbiaaMDrawTurns
import Derived.Test.YtfijdkjibjdbiaaPrintF4
set_option linter.unusedVariables false
set_option linter.unusedSimpArgs false
namespace Go.Proofs.Ytfijdkjibjdbiaa.M
open Go.RowKit Go.Proofs.Ytfijdkjibjdbiaa.Print Go.Proofs.YtfijdkjibjdbiaaW.PrintWords Go.Proofs.YtfijdkjibjdbiaaW.PrintLast Go.Proofs.YtfijdkjibjdbiaaY
theorem drawTN_ev (l0 : List Int) (hb : ∀ x ∈ l0, (Lit.int .u8 x).wf = true) : ∃ n l t, Ev (fun k => spec_DrawTurnNet.f k l0) (n, l, t) ∧ l.length ≤ 13 ∧ t.length ≤ 21 := by
  obtain ⟨c, ec, hc⟩ := open_eq l0 hb
  obtain ⟨n, l, p, en, p0, p1, hl, _⟩ := net_ev c hc 0 (by omega) (by omega)
  have loop : ∀ (d i : Nat) (x : List Ar), x.length ≤ 13 → i ≤ x.length → x.length - i = d → ∃ y t, Ev (fun k => spec_DrawTurnNet.l0 k (i : Int) c p n x) (n, y, t) ∧ y.length ≤ 13 ∧ t.length ≤ 21 := by
    intro d
    induction d with
    | zero =>
      intro i x hx hi hd
      obtain ⟨t, q, et, _, _, ht⟩ := dturns_ev c hc p n x (by omega) (by omega) (by omega)
      exact ⟨x, t, Ev.step (fun k => spec_DrawTurnNet.l0.eq_2 _ _ _ _ _ _) (Ev.neg (by omega) (Ev.bnd et (Ev.now _))), hx, ht⟩
    | succ d ih =>
      intro i x hx hi hd
      obtain ⟨y, t, e, h1, h2⟩ := ih (i + 1) (x.set i ⟨(x.getD i arz).f0, (x.getD i arz).f1, Int.tmod (x.getD i arz).f2 50, (x.getD i arz).f3, (x.getD i arz).f4⟩) (by rw [List.length_set]; exact hx) (by rw [List.length_set]; omega) (by rw [List.length_set]; omega)
      refine ⟨y, t, Ev.step (fun k => spec_DrawTurnNet.l0.eq_2 _ _ _ _ _ _) (Ev.pos (by omega) (Ev.pos (by omega) ?_)), h1, h2⟩
      rw [rdA, nxt i (by omega), Int.toNat_natCast]
      exact e
  have go : ∀ x : List Ar, x.length ≤ 13 → ∃ y t, Ev (fun k => spec_DrawTurnNet.j0 k c p n x) (n, y, t) ∧ y.length ≤ 13 ∧ t.length ≤ 21 := fun x hx => by
    obtain ⟨y, t, e, h⟩ := loop x.length 0 x hx (by omega) (by omega)
    exact ⟨y, t, Ev.step (fun k => spec_DrawTurnNet.j0.eq_2 _ _ _ _ _) e, h⟩
  by_cases h6 : (l.length : Int) > 6
  · obtain ⟨y, t, e, h⟩ := go (l.take (6 : Int).toNat) (by rw [List.length_take]; omega)
    refine ⟨n, y, t, ?_, h⟩
    unfold spec_DrawTurnNet.f
    exact Ev.bnd0 ec (Ev.bnd en (Ev.pos h6 (Ev.pos (show (6 : Int) ≤ (l.length : Int) by omega) e)))
  · obtain ⟨y, t, e, h⟩ := go l hl
    refine ⟨n, y, t, ?_, h⟩
    unfold spec_DrawTurnNet.f
    exact Ev.bnd0 ec (Ev.bnd en (Ev.neg h6 e))
end Go.Proofs.Ytfijdkjibjdbiaa.M
