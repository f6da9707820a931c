/- For every code: what FnTurnBest asks holds. No condition beyond those that the statement has. -/
import Derived.Test.YtcfmejfmjjgoaaaPrintF10
import Derived.Test.YtcfmejfmjjgoaaaY
import Derived.Test.YtcfmejfmjjgoaaaMBell3W
import Derived.Test.YtcfmejfmjjgoaaaMDrawTW
import Derived.Test.YtcfmejfmjjgoaaaMBell
import Derived.Test.YtcfmejfmjjgoaaaMBell2
import Derived.Test.YtcfmejfmjjgoaaaMDrawNet
import Derived.Test.YtcfmejfmjjgoaaaMEdge
import Derived.Test.YtcfmejfmjjgoaaaMNet
import Derived.Test.YtcfmejfmjjgoaaaMTurnW
import Derived.Test.YtcfmejfmjjgoaaaMTurns
import Derived.Test.YtcfmejfmjjgoaaaMTurns2
import Derived.Test.YtcfmejfmjjgoaaaMWalk
import Derived.Test.YtcfmejfmjjgoaaaMWalk2
import Derived.Test.YtcfmejfmjjgoaaaPrintF22
import Derived.Test.YtcfmejfmjjgoaaaPrintF23
import Derived.Test.YtcfmejfmjjgoaaaPrintF24
import Derived.Test.YtcfmejfmjjgoaaaPrintF30
import Derived.Test.YtcfmejfmjjgoaaaPrintF32
set_option linter.unusedVariables false
namespace Go.Proofs.Ytcfmejfmjjgoaaa.Pure
open Go.RowKit Go.Proofs.Ytcfmejfmjjgoaaa.Print Go.Proofs.YtcfmejfmjjgoaaaW.PrintWords Go.Proofs.YtcfmejfmjjgoaaaW.PrintLast Go.Proofs.YtcfmejfmjjgoaaaY Go.Proofs.Ytcfmejfmjjgoaaa.M
theorem FnTurnBest : laws_FnTurnBest.Pure := by
  intro l0 hm hm2 hb
  refine Ev.rounds (g := fun k => laws_FnTurnBest.f k l0) ?_
  unfold laws_FnTurnBest.f
  refine Ev.ite (fun _ => Ev.now _) (fun hl => ?_)
  obtain ⟨n, l, t, w, ed, hD, ht, hw⟩ := drawTW_ev l0 hb
  have hlen := hD.len
  have e1 := itw_ev n l t w (by omega) (by omega) (by omega)
  have e2 := stw_ev n l t w (by omega) (by omega) (by omega)
  have bad : Ev (fun k => laws_FnTurnBest.j0 k t w (twV n l t w) true n l) true := Ev.step (fun k => laws_FnTurnBest.j0.eq_2 _ _ _ _ _ _ _) (Ev.pos rfl (Ev.bnd e2 (Ev.now' (by simp))))
  refine Ev.bnd ed (Ev.bnd e1 (Ev.bnd e2 (Ev.pos rfl (Ev.ite (fun _ => bad) (fun hc => ?_)))))
  show Ev (fun k => laws_FnTurnBest.j0 k t w (twV n l t w) ((w.length : Int) == 0) n l) true
  by_cases h0 : w.length = 0
  · rw [show ((w.length : Int) == 0) = true by rw [h0]; rfl]; exact bad
  · rw [show ((w.length : Int) == 0) = false from beq_eq_false_iff_ne.2 (by omega)]
    have hT : turnsB n l t = true ∧ wB l w = true := by
      refine Decidable.byContradiction (fun z => hc ?_)
      show twV n l t w < 0
      unfold twV; rw [if_neg z]; omega
    have hN := netP_of (turns_net hT.1)
    have hW := wB_iff.1 hT.2
    have hwl := hW.2
    have gi := (hW.1 0 (by omega)).1
    have gl := (hW.1 (w.length - 1) (by omega)).1
    have gi0 := gi.1
    have gi1 := gi.2
    have gl0 := gl.1
    have gl1 := gl.2
    have ga := arcAt hN (w.getD 0 0).toNat (by omega)
    have gz := arcAt hN (w.getD (w.length - 1) 0).toNat (by omega)
    obtain ⟨d, hi, _, _, _, hM⟩ := turnAll_ev n l t (arc l (w.getD 0 0)).f0 (by omega) (by omega)
    obtain ⟨hN', B, g, f, rfl⟩ := hM (turnAllB_to hT.1 ga.1 ga.2.1)
    have hcv : twV n l t w = tSum t w (costS l w) 1 (w.length - 1) := by unfold twV; rw [if_pos hT]
    have key := turn_best hN' (fun x hx => (turns_in hT.1 x hx).2.2.2.2.2) hW h0 g f (by rw [← hcv]; have : ¬ twV n l t w < 0 := hc; omega)
    have ez : (arc l (w.getD (w.length - 1) 0)).f1 = (l.getD (w.getD (w.length - 1) 0).toNat arz).f1 := rfl
    refine Ev.step (fun k => laws_FnTurnBest.j0.eq_2 _ _ _ _ _ _ _) (Ev.neg (by simp) (Ev.pos (by omega) (Ev.pos (show 0 ≤ w.getD 0 0 from gi0) (Ev.pos (show w.getD 0 0 < (l.length : Int) from gi1) (Ev.bnd hi ?_)))))
    rw [prv w.length (by omega) (by omega), rdI, rdAi]
    refine Ev.pos (by omega) (Ev.pos (by omega) (Ev.pos gl0 (Ev.pos gl1 (Ev.pos (by omega) (Ev.pos (by rw [outA_len]; omega) (Ev.now' ?_))))))
    refine decide_eq_true ?_
    show (outA n l _ B).getD (l.getD (w.getD (w.length - 1) 0).toNat arz).f1.toNat 0 ≤ twV n l t w
    rw [hcv]
    exact key
end Go.Proofs.Ytcfmejfmjjgoaaa.Pure
