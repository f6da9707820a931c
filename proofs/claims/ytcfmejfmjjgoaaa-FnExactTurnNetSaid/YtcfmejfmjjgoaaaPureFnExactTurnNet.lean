/- For every net and all turns: what FnExactTurnNet asks holds. No condition beyond those that the statement has. -/
import Derived.Test.YtcfmejfmjjgoaaaPrintF8
import Derived.Test.YtcfmejfmjjgoaaaY
import Derived.Test.YtcfmejfmjjgoaaaMTurnC
import Derived.Test.YtcfmejfmjjgoaaaMArcs
import Derived.Test.YtcfmejfmjjgoaaaMMark
import Derived.Test.YtcfmejfmjjgoaaaMMarkT
import Derived.Test.YtcfmejfmjjgoaaaMTNet
import Derived.Test.YtcfmejfmjjgoaaaMNet
import Derived.Test.YtcfmejfmjjgoaaaMTurns
import Derived.Test.YtcfmejfmjjgoaaaPrintF16
import Derived.Test.YtcfmejfmjjgoaaaPrintF17
import Derived.Test.YtcfmejfmjjgoaaaPrintF18
import Derived.Test.YtcfmejfmjjgoaaaPrintF19
import Derived.Test.YtcfmejfmjjgoaaaPrintF20
import Derived.Test.YtcfmejfmjjgoaaaPrintF21
import Derived.Test.YtcfmejfmjjgoaaaPrintF33
import Derived.Test.YtcfmejfmjjgoaaaPrintF34
import Derived.Test.YtcfmejfmjjgoaaaPrintF35
import Derived.Test.YtcfmejfmjjgoaaaPrintF36
import Derived.Test.YtcfmejfmjjgoaaaPrintF37
set_option linter.unusedVariables false
namespace Go.Proofs.Ytcfmejfmjjgoaaa.Pure
open Go.RowKit Go.Proofs.Ytcfmejfmjjgoaaa.Print Go.Proofs.YtcfmejfmjjgoaaaW.PrintWords Go.Proofs.YtcfmejfmjjgoaaaW.PrintLast Go.Proofs.YtcfmejfmjjgoaaaY Go.Proofs.Ytcfmejfmjjgoaaa.M
theorem FnExactTurnNet : laws_FnExactTurnNet.Pure := by
  intro n l t _ hm _ hmt _
  refine Ev.rounds (g := fun k => laws_FnExactTurnNet.f k n l t) ?_
  unfold laws_FnExactTurnNet.f
  obtain ⟨r, hr, hr2, hs⟩ := szN_eq n l hm
  refine Ev.bnd0 hr (Ev.ite (fun _ => Ev.now _) (fun hn => ?_))
  obtain ⟨r', hr', _, hs'⟩ := szT_eq t r (by omega) hr2 hmt
  refine Ev.bnd0 hr' (Ev.ite (fun _ => Ev.now _) (fun hn' => ?_))
  have hl : l.length ≤ 1048576 := by omega
  have htl : t.length ≤ 1048576 := by omega
  have hl2 : (l.map convA).length ≤ 1000000000 := by rw [List.length_map]; omega
  have ht2 : (t.map convT).length ≤ 1000000000 := by rw [List.length_map]; omega
  have ha := toNet_ev n l (by omega)
  have hb := toT_ev t (by omega)
  have hi := iTurnNet_ev n (l.map convA) (t.map convT) hl2 ht2
  have hs := sTurnNet_ev n (l.map convA) (t.map convT) hl2 ht2
  have hlen := tnetV_len n (l.map convA) (t.map convT)
  generalize tnetV n (l.map convA) (t.map convT) = V at hi hs hlen
  obtain ⟨m, x, q⟩ := V
  have hlen' : x.length ≤ 16 := hlen
  have he := eqNet_ev m x (by omega)
  obtain ⟨t', hmk⟩ := markT_ev (1 + 5 * ((l.map convA).length : Int)) (t.map convT) (by omega) (by omega) (by omega)
  have hh := heldN_ev m 1 x.length (by omega) (by omega) (by omega)
  have qq : (q != q) = false := by simp
  refine Ev.bnd ha (Ev.bnd hb (Ev.bnd hs (Ev.bnd ha (Ev.bnd hb (Ev.bnd hi (Ev.bnd he (Ev.pos rfl ?_)))))))
  show Ev (fun k => laws_FnExactTurnNet.j0 k t q (t.map convT) q (q != q) n l m x n (l.map convA) m x) true
  rw [qq]
  refine Ev.step (fun k => laws_FnExactTurnNet.j0.eq_2 _ _ _ _ _ _ _ _ _ _ _ _ _ _) (Ev.neg (by simp) (Ev.bnd ha (Ev.bnd (eqNet_ev n _ (Nat.le_trans hl2 (by decide))) (Ev.pos rfl (Ev.bnd hb (Ev.bnd (eqT_ev _ (Nat.le_trans ht2 (by decide))) (Ev.pos rfl (Ev.bnd (markN_ev n 1 _ (by omega) (by omega) (by omega)) (Ev.bnd hmk (Ev.neg (by omega) (Ev.bnd he (Ev.pos rfl ?_))))))))))))
  show Ev (fun k => laws_FnExactTurnNet.j1 k t q (q != q) n l m x m x) true
  rw [qq]
  refine Ev.step (fun k => laws_FnExactTurnNet.j1.eq_2 _ _ _ _ _ _ _ _ _ _) (Ev.neg (by simp) (Ev.bnd (markN_ev m 1 x (by omega) (by omega) (by omega)) (Ev.bnd hh (Ev.neg (by omega) (Ev.pos rfl (Ev.bnd ha (Ev.bnd hb (Ev.bnd hi (Ev.bnd he (Ev.pos rfl ?_))))))))))
  show Ev (fun k => laws_FnExactTurnNet.j2 k (1 + 5 * (x.length : Int)) (q != q) m (upsA 1 x.length)) true
  rw [qq]
  exact Ev.step (fun k => laws_FnExactTurnNet.j2.eq_2 _ _ _ _ _) (Ev.neg (by simp) (Ev.bnd hh (Ev.neg (by omega) (Ev.pos rfl (Ev.now _)))))
end Go.Proofs.Ytcfmejfmjjgoaaa.Pure
