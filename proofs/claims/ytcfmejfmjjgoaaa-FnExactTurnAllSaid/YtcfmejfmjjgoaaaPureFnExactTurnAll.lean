/- For every net, all turns and every node: what FnExactTurnAll asks holds. No condition beyond those that the statement has. -/
import Derived.Test.YtcfmejfmjjgoaaaPrintF12
import Derived.Test.YtcfmejfmjjgoaaaY
import Derived.Test.YtcfmejfmjjgoaaaMTurnC
import Derived.Test.YtcfmejfmjjgoaaaMArcs
import Derived.Test.YtcfmejfmjjgoaaaMInts
import Derived.Test.YtcfmejfmjjgoaaaMMark
import Derived.Test.YtcfmejfmjjgoaaaMMarkT
import Derived.Test.YtcfmejfmjjgoaaaMBell2
import Derived.Test.YtcfmejfmjjgoaaaMBell
import Derived.Test.YtcfmejfmjjgoaaaMNet
import Derived.Test.YtcfmejfmjjgoaaaMTurns
import Derived.Test.YtcfmejfmjjgoaaaPrintF16
import Derived.Test.YtcfmejfmjjgoaaaPrintF17
import Derived.Test.YtcfmejfmjjgoaaaPrintF18
import Derived.Test.YtcfmejfmjjgoaaaPrintF19
import Derived.Test.YtcfmejfmjjgoaaaPrintF20
import Derived.Test.YtcfmejfmjjgoaaaPrintF21
import Derived.Test.YtcfmejfmjjgoaaaPrintF28
import Derived.Test.YtcfmejfmjjgoaaaPrintF30
import Derived.Test.YtcfmejfmjjgoaaaPrintF32
import Derived.Test.YtcfmejfmjjgoaaaPrintF35
import Derived.Test.YtcfmejfmjjgoaaaPrintF36
import Derived.Test.YtcfmejfmjjgoaaaPrintF42
import Derived.Test.YtcfmejfmjjgoaaaPrintF43
set_option linter.unusedVariables false
namespace Go.Proofs.Ytcfmejfmjjgoaaa.Pure
open Go.RowKit Go.Proofs.Ytcfmejfmjjgoaaa.Print Go.Proofs.YtcfmejfmjjgoaaaW.PrintWords Go.Proofs.YtcfmejfmjjgoaaaW.PrintLast Go.Proofs.YtcfmejfmjjgoaaaY Go.Proofs.Ytcfmejfmjjgoaaa.M
theorem FnExactTurnAll : laws_FnExactTurnAll.Pure := by
  intro n l t v _ hm _ hmt _ _
  refine Ev.rounds (g := fun k => laws_FnExactTurnAll.f k n l t v) ?_
  unfold laws_FnExactTurnAll.f
  obtain ⟨r, hr, hr2, hs⟩ := szN_eq n l hm
  refine Ev.bnd0 hr (Ev.ite (fun _ => Ev.now _) (fun hn => ?_))
  obtain ⟨r', hr', _, hs'⟩ := szT_eq t r (by omega) hr2 hmt
  refine Ev.bnd0 hr' (Ev.ite (fun _ => Ev.now _) (fun hn' => ?_))
  have hl : l.length ≤ 1048576 := by omega
  have htl : t.length ≤ 1048576 := by omega
  have hl2 : (l.map convA).length ≤ 1000000000 := by rw [List.length_map]; omega
  have ht2 : (t.map convT).length ≤ 1000000000 := by rw [List.length_map]; omega
  have ha := toNet_ev n l (by omega)
  have hb := toT_ev t (by omega)
  obtain ⟨d, hi, hs, hd, _, _⟩ := turnAll_ev n (l.map convA) (t.map convT) v hl2 ht2
  have he := eqI_ev d (by omega)
  have hne := eqNet_ev n (l.map convA) (Nat.le_trans hl2 (by decide))
  have hmN := markN_ev n 1 (l.map convA) (by omega) (by omega) (by omega)
  obtain ⟨t', hmk⟩ := markT_ev (1 + 5 * ((l.map convA).length : Int)) (t.map convT) (by omega) (by omega) (by omega)
  have hh := held_ev 1 d.length (by omega) (by omega) (by omega)
  refine Ev.bnd ha (Ev.bnd hb (Ev.bnd hs (Ev.bnd ha (Ev.bnd hb (Ev.bnd hi (Ev.bnd he (Ev.pos rfl (Ev.bnd ha (Ev.bnd hne (Ev.pos rfl (Ev.bnd hb (Ev.bnd (eqT_ev _ (Nat.le_trans ht2 (by decide))) (Ev.pos rfl (Ev.bnd hmN (Ev.bnd hmk (Ev.neg (by omega) (Ev.bnd he ?_)))))))))))))))))
  exact Ev.step (fun k => laws_FnExactTurnAll.j0.eq_2 _ _ _ _ _ _ _ _) (Ev.neg (by simp) (Ev.bnd (mark_ev 1 d (by omega) (by omega) (by omega)) (Ev.bnd hh (Ev.neg (by omega) (Ev.pos rfl (Ev.bnd ha (Ev.bnd hb (Ev.bnd hi (Ev.bnd he (Ev.pos rfl (Ev.bnd hh (Ev.neg (by omega) (Ev.pos rfl (Ev.now _))))))))))))))
end Go.Proofs.Ytcfmejfmjjgoaaa.Pure
