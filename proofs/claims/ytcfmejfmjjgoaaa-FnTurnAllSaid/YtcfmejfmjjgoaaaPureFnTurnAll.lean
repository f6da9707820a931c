/- For every code: what FnTurnAll asks holds. No condition beyond those that the statement has. -/
import Derived.Test.YtcfmejfmjjgoaaaPrintF11
import Derived.Test.YtcfmejfmjjgoaaaY
import Derived.Test.YtcfmejfmjjgoaaaMWk
import Derived.Test.YtcfmejfmjjgoaaaMBell4
import Derived.Test.YtcfmejfmjjgoaaaMDrawTurns
import Derived.Test.YtcfmejfmjjgoaaaMBell
import Derived.Test.YtcfmejfmjjgoaaaMBell2
import Derived.Test.YtcfmejfmjjgoaaaMBell3
import Derived.Test.YtcfmejfmjjgoaaaMDrawNet
import Derived.Test.YtcfmejfmjjgoaaaMNear
import Derived.Test.YtcfmejfmjjgoaaaMNear2
import Derived.Test.YtcfmejfmjjgoaaaMNear3
import Derived.Test.YtcfmejfmjjgoaaaMNet
import Derived.Test.YtcfmejfmjjgoaaaMTurn
import Derived.Test.YtcfmejfmjjgoaaaMTurns
import Derived.Test.YtcfmejfmjjgoaaaPrintF29
import Derived.Test.YtcfmejfmjjgoaaaPrintF30
import Derived.Test.YtcfmejfmjjgoaaaPrintF31
import Derived.Test.YtcfmejfmjjgoaaaPrintF32
import Derived.Test.YtcfmejfmjjgoaaaPrintF40
import Derived.Test.YtcfmejfmjjgoaaaPrintF41
set_option linter.unusedVariables false
namespace Go.Proofs.Ytcfmejfmjjgoaaa.Pure
open Go.RowKit Go.Proofs.Ytcfmejfmjjgoaaa.Print Go.Proofs.YtcfmejfmjjgoaaaW.PrintWords Go.Proofs.YtcfmejfmjjgoaaaW.PrintLast Go.Proofs.YtcfmejfmjjgoaaaY Go.Proofs.Ytcfmejfmjjgoaaa.M
theorem FnTurnAll : laws_FnTurnAll.Pure := by
  intro l0 hm hm2 hb
  refine Ev.rounds (g := fun k => laws_FnTurnAll.f k l0) ?_
  unfold laws_FnTurnAll.f
  refine Ev.ite (fun _ => Ev.now _) (fun hl => ?_)
  obtain ⟨n, l, t, v, ed, hD, ht⟩ := drawTA_ev l0 hb
  have hlen := hD.len
  obtain ⟨d, hi, hs, hd, hz, hM⟩ := turnAll_ev n l t v (by omega) (by omega)
  have bad : Ev (fun k => laws_FnTurnAll.j0 k t v d true n l) true := Ev.step (fun k => laws_FnTurnAll.j0.eq_2 _ _ _ _ _ _ _) (Ev.pos rfl (Ev.bnd hs (Ev.bnd (wkI_ev d (by omega)) (Ev.now _))))
  refine Ev.bnd ed (Ev.bnd hi (Ev.bnd hs (Ev.bnd (wkI_ev d (by omega)) (Ev.pos rfl ?_))))
  show Ev (fun k => laws_FnTurnAll.j0 k t v d ((d.length : Int) == 0) n l) true
  cases hb1 : turnAllB n l t v with
  | false => rw [show ((d.length : Int) == 0) = true by rw [hz hb1]; rfl]; exact bad
  | true =>
    obtain ⟨h1, _, h2, h3⟩ := turnAllB_of hb1
    obtain ⟨hN, B, g, f, rfl⟩ := hM hb1
    have n1 := hN.lo
    have n8 := hN.hi
    have hoB : (outA n l v B).length = n.toNat := outA_len _ _ _ _
    rw [show (((outA n l v B).length : Int) == 0) = false by rw [hoB]; simp; omega]
    obtain ⟨p, hp, hpl, _, hPM⟩ := inearAll_ev n l v
    have hnode : nodeB n l v = true := by
      unfold nodeB
      rw [turns_net h1, w64 (x := n - 1) (by omega) (by omega)]
      simp; omega
    obtain ⟨M, b, rfl⟩ := hPM hnode
    have hlM : (costsL M).length = n.toNat := by unfold costsL; rw [List.length_map]; exact b.len
    have rdc : ∀ j : Nat, (j : Int) < n → (costsL M).getD j 0 = (atM M (j : Int)).f0 := fun j hj => by
      have := rd_costs b.toInv (j : Int) (by omega) hj
      rw [← this]; exact (rdI (costsL M) j).symm
    obtain ⟨e, hi', _, _, _, hM'⟩ := turnAll_ev n l [] v (by omega) (by simp)
    obtain ⟨_, C, g', f', rfl⟩ := hM' (turnAllB_to (turnsB_nil (turns_net h1)) h2 h3)
    have hoC : (outA n l v C).length = n.toNat := outA_len _ _ _ _
    have same : outA n l v C = costsL M := by
      refine List.ext_getElem (by rw [hoC, hlM]) (fun j q1 q2 => ?_)
      have hj : (j : Int) < n := by omega
      have e1 := near_le hN b h2 h3 g' j hj
      have e2 := near_ge hN b h2 h3 g' f' j hj
      have e3 := rdc j hj
      rw [getDI _ j q2] at e3
      rw [getDI _ j q1] at e1 e2
      omega
    have fin : ∀ (q j : Nat), (j : Int) + q = n → Ev (fun k => laws_FnTurnAll.l0 k v (outA n l v B) (costsL M) (j : Int) n l) true := by
      intro q
      induction q with
      | zero =>
        intro j hj
        refine Ev.step (fun k => laws_FnTurnAll.l0.eq_2 _ _ _ _ _ _ _) (Ev.neg (by omega) (Ev.pos h2 (Ev.pos (by omega) (Ev.pos ?_ (Ev.bnd hi' (Ev.bnd ?_ (Ev.now _)))))))
        · exact outA_self g h2 h3
        · rw [same]; exact wkI_ev _ (by omega)
      | succ q ih =>
        intro j hj
        have e1 := near_le hN b h2 h3 g j (by omega)
        refine Ev.step (fun k => laws_FnTurnAll.l0.eq_2 _ _ _ _ _ _ _) (Ev.pos (by omega) (Ev.pos (by omega) (Ev.pos (by omega) (Ev.pos (by omega) ?_))))
        rw [rdI, rdI, rdc j (by omega), nxt j (by omega)]
        exact Ev.neg (by omega) (ih (j + 1) (by omega))
    exact Ev.step (fun k => laws_FnTurnAll.j0.eq_2 _ _ _ _ _ _ _) (Ev.neg (by simp) (Ev.bnd hp (fin n.toNat 0 (by omega))))
end Go.Proofs.Ytcfmejfmjjgoaaa.Pure
