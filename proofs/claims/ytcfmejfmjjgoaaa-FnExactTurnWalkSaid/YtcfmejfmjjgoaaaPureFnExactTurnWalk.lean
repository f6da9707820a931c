/- For every net, all turns and every walk: what FnExactTurnWalk asks holds. No condition beyond those that the statement has. -/
import Derived.Test.YtcfmejfmjjgoaaaPrintF6
import Derived.Test.YtcfmejfmjjgoaaaY
import Derived.Test.YtcfmejfmjjgoaaaMArcs
import Derived.Test.YtcfmejfmjjgoaaaMInts
import Derived.Test.YtcfmejfmjjgoaaaMTurns2
set_option linter.unusedVariables false
namespace Go.Proofs.Ytcfmejfmjjgoaaa.Pure
open Go.RowKit Go.Proofs.Ytcfmejfmjjgoaaa.Print Go.Proofs.YtcfmejfmjjgoaaaW.PrintWords Go.Proofs.YtcfmejfmjjgoaaaW.PrintLast Go.Proofs.YtcfmejfmjjgoaaaY Go.Proofs.Ytcfmejfmjjgoaaa.M
theorem FnExactTurnWalk : laws_FnExactTurnWalk.Pure := by
  intro n l t w _ hm _ hmt _ _ _
  refine Ev.rounds (g := fun k => laws_FnExactTurnWalk.f k n l t w) ?_
  unfold laws_FnExactTurnWalk.f
  refine Ev.ite (fun _ => Ev.now _) (fun hw => ?_)
  obtain ⟨r, hr, hr2, hs⟩ := szN_eq n l hm
  refine Ev.bnd0 hr (Ev.ite (fun _ => Ev.now _) (fun hn => ?_))
  obtain ⟨r', hr', _, hs'⟩ := szT_eq t r (by omega) hr2 hmt
  refine Ev.bnd0 hr' (Ev.ite (fun _ => Ev.now _) (fun hn' => ?_))
  have hl : l.length ≤ 1048576 := by omega
  have htl : t.length ≤ 1048576 := by omega
  have hl2 : (l.map convA).length ≤ 1000000000 := by rw [List.length_map]; omega
  have ht2 : (t.map convT).length ≤ 1000000000 := by rw [List.length_map]; omega
  have hw2 : w.length ≤ 1000000000 := by omega
  have ha := toNet_ev n l (by omega)
  have hb := toT_ev t (by omega)
  have hi := toI_ev w (by omega)
  exact Ev.bnd ha (Ev.bnd hb (Ev.bnd hi (Ev.bnd (stw_ev n _ _ w hl2 ht2 hw2) (Ev.bnd ha (Ev.bnd hb (Ev.bnd hi (Ev.bnd (itw_ev n _ _ w hl2 ht2 hw2) (Ev.pos rfl (Ev.bnd ha (Ev.bnd (eqNet_ev n _ (Nat.le_trans hl2 (by decide))) (Ev.pos rfl (Ev.bnd hb (Ev.bnd (eqT_ev _ (Nat.le_trans ht2 (by decide))) (Ev.pos rfl (Ev.bnd hi (Ev.bnd (eqI_ev w (by omega)) (Ev.pos rfl (Ev.now _))))))))))))))))))
end Go.Proofs.Ytcfmejfmjjgoaaa.Pure
