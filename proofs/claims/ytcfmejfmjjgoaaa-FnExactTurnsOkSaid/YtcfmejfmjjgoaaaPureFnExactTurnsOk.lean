/- For every net and all turns: what FnExactTurnsOk asks holds. No condition beyond those that the statement has. -/
import Derived.Test.YtcfmejfmjjgoaaaPrintF15
import Derived.Test.YtcfmejfmjjgoaaaPrintF4
import Derived.Test.YtcfmejfmjjgoaaaPrintF41
import Derived.Test.YtcfmejfmjjgoaaaY
import Derived.Test.YtcfmejfmjjgoaaaMNet
import Derived.Test.YtcfmejfmjjgoaaaMArcs
import Derived.Test.YtcfmejfmjjgoaaaMTurns
set_option linter.unusedVariables false
namespace Go.Proofs.Ytcfmejfmjjgoaaa.Pure
open Go.RowKit Go.Proofs.Ytcfmejfmjjgoaaa.Print Go.Proofs.YtcfmejfmjjgoaaaW.PrintWords Go.Proofs.YtcfmejfmjjgoaaaW.PrintLast Go.Proofs.YtcfmejfmjjgoaaaY Go.Proofs.Ytcfmejfmjjgoaaa.M
theorem FnExactTurnsOk : laws_FnExactTurnsOk.Pure := by
  intro n l t _ hm _ hmt _
  refine Ev.rounds (g := fun k => laws_FnExactTurnsOk.f k n l t) ?_
  unfold laws_FnExactTurnsOk.f
  obtain ⟨r, hr, hr2, hs⟩ := szN_eq n l hm
  refine Ev.bnd0 hr (Ev.ite (fun _ => Ev.now _) (fun hn => ?_))
  obtain ⟨r', hr', _, hs'⟩ := szT_eq t r (by omega) hr2 hmt
  refine Ev.bnd0 hr' (Ev.ite (fun _ => Ev.now _) (fun hn' => ?_))
  have hl : l.length ≤ 1048576 := by omega
  have htl : t.length ≤ 1048576 := by omega
  have hl2 : (l.map convA).length ≤ 1000000000 := by rw [List.length_map]; omega
  have ht2 : (t.map convT).length ≤ 1000000000 := by rw [List.length_map]; omega
  have ha := toNet_ev n l (by omega)
  have hb := toT_ev t (by omega)
  have hsp : Ev (fun k => spec_TurnsOk.f k n (l.map convA) (t.map convT)) (turnsB n (l.map convA) (t.map convT)) := by
    unfold spec_TurnsOk.f turnsB
    refine Ev.bnd (sok1_ev n _ (by omega)) ?_
    by_cases h : netOkB n (l.map convA) = true
    · exact Ev.pos h (Ev.bnd (sl4_ev n _ _ hl2 ht2) (Ev.now' (by rw [h, Bool.and_comm]; simp)))
    · exact Ev.neg h (Ev.now' (by rw [Bool.eq_false_iff.2 h]; rfl))
  exact Ev.bnd ha (Ev.bnd hb (Ev.bnd hsp (Ev.bnd ha (Ev.bnd hb (Ev.bnd (iturns_ev n _ _ hl2 ht2) (Ev.neg (by simp) (Ev.bnd ha (Ev.bnd (eqNet_ev n _ (Nat.le_trans hl2 (by decide))) (Ev.pos rfl (Ev.bnd hb (Ev.bnd (eqT_ev _ (Nat.le_trans ht2 (by decide))) (Ev.pos rfl (Ev.now _)))))))))))))
end Go.Proofs.Ytcfmejfmjjgoaaa.Pure
