/- For every code: what FnNearTo asks holds. No condition beyond those that the statement has. -/
import Derived.Test.YtbmoonciggfbpaaMNear4
import Derived.Test.YtbmoonciggfbpaaMDrawNO
import Derived.Test.YtbmoonciggfbpaaMWk
import Derived.Test.YtbmoonciggfbpaaPrintF17
import Derived.Test.YtbmoonciggfbpaaPrintF20
import Derived.Test.YtbmoonciggfbpaaPrintF46
import Derived.Test.YtbmoonciggfbpaaPrintF5
set_option linter.unusedVariables false
namespace Go.Proofs.Ytbmoonciggfbpaa.Pure
open Go.RowKit Go.Proofs.Ytbmoonciggfbpaa.Print Go.Proofs.YtbmoonciggfbpaaW.PrintWords Go.Proofs.YtbmoonciggfbpaaW.PrintLast Go.Proofs.YtbmoonciggfbpaaY Go.Proofs.Ytbmoonciggfbpaa.M
theorem FnNearTo : laws_FnNearTo.Pure := by
  intro l0 hm hm2 hb
  suffices h : Ev (fun k => laws_FnNearTo.f k l0) true by
    obtain ⟨K, h⟩ := h
    exact ⟨K, h K (Nat.le_refl _)⟩
  unfold laws_FnNearTo.f
  refine Ev.ite (fun _ => Ev.now _) (fun _ => ?_)
  obtain ⟨n, l, v, ed, hN⟩ := drawNO_ev l0 hb
  have hlen := hN.len
  obtain ⟨d, hi, hs, hd, hz, hM⟩ := nearTo_ev n l v (by omega)
  refine Ev.bnd (a := (n, l, v)) ?_ (Ev.bnd hi (Ev.bnd hs (Ev.bnd (wkI_ev d (by omega)) (Ev.pos rfl ?_))))
  · unfold spec_DrawNearTo.f
    exact Ev.bnd ed (Ev.now _)
  have short : ((d.length : Int) == 0) = true → Ev (fun k => laws_FnNearTo.j0 k v d ((d.length : Int) == 0) n l) true := fun h => by
    rw [h]
    exact Ev.step (fun k => laws_FnNearTo.j0.eq_2 _ _ _ _ _ _) (Ev.pos rfl (Ev.bnd hs (Ev.bnd (wkI_ev d (by omega)) (Ev.now _))))
  cases hb1 : nodeB n l v with
  | false => exact short (by rw [hz hb1]; rfl)
  | true =>
    obtain ⟨hP, h0, h1⟩ := nodeB_of hb1
    obtain ⟨M, b, rfl⟩ := hM hb1
    have n1 := hP.lo
    have n8 := hP.hi
    have hlM : (costsL M).length = n.toNat := by unfold costsL; rw [List.length_map]; exact b.len
    rw [show (((costsL M).length : Int) == 0) = false from by rw [hlM]; simp; omega]
    refine Ev.step (fun k => laws_FnNearTo.j0.eq_2 _ _ _ _ _ _) (Ev.neg (by simp) ?_)
    have hP' := turnP hP
    have node : ∀ u : Int, 0 ≤ u → u < n → nodeB n l u = true := fun u u0 u1 => by
      unfold nodeB
      rw [ok_of hP, w64 (x := n - 1) (by omega) (by omega)]
      simp; omega
    have loop : ∀ (q j : Nat), (j : Int) + q = n → Ev (fun k => laws_FnNearTo.l0 k v (costsL M) (j : Int) n l) true := by
      intro q
      induction q with
      | zero =>
        intro j hj
        have hb2 : nodeB n (turnL l) v = true := by
          unfold nodeB
          rw [ok_of hP', w64 (x := n - 1) (by omega) (by omega)]
          simp; omega
        obtain ⟨e, ei, _, _, _, eM⟩ := nearAll_ev n (turnL l) v (by rw [turnL_len]; omega)
        obtain ⟨M2, b2, rfl⟩ := eM hb2
        rw [turn2] at b2
        rw [best_uniq hP h0 h1 b2 b] at ei
        refine Ev.step (fun k => laws_FnNearTo.l0.eq_2 _ _ _ _ _ _) (Ev.neg (by omega) (Ev.bnd (a := (n, turnL l)) ?_ (Ev.bnd ei (Ev.bnd (wkI_ev _ (by omega)) (Ev.now _)))))
        unfold impl_NetBack.f
        exact Ev.bnd0 (a := netOkB n l) rfl (Ev.pos (ok_of hP) (Ev.bnd (iback_ev n l (by omega)) (Ev.now _)))
      | succ q ih =>
        intro j hj
        obtain ⟨e, ei, _, _, _, eM⟩ := nearAll_ev n l (j : Int) (by omega)
        obtain ⟨M2, b2, rfl⟩ := eM (node (j : Int) (by omega) (by omega))
        have hlM2 : (costsL M2).length = n.toNat := by unfold costsL; rw [List.length_map]; exact b2.len
        refine Ev.step (fun k => laws_FnNearTo.l0.eq_2 _ _ _ _ _ _) (Ev.pos (by omega) (Ev.bnd ei (Ev.pos h0 (Ev.pos (by omega) (Ev.pos (by omega) (Ev.pos (by omega) ?_))))))
        have e1 : Go.Proofs.YtbmoonciggfbpaaW.PrintWords.rd (costsL M2) v = (atM M2 v).f0 := rd_costs b2.toInv v h0 h1
        have e2 : Go.Proofs.YtbmoonciggfbpaaW.PrintWords.rd (costsL M) (j : Int) = (atM M (j : Int)).f0 := rd_costs b.toInv (j : Int) (by omega) (by omega)
        rw [e1, e2, nxt j (by omega)]
        exact Ev.pos (turn_dist hP (by omega) (by omega) h0 h1 b b2).symm (ih (j + 1) (by omega))
    exact loop n.toNat 0 (by omega)
end Go.Proofs.Ytbmoonciggfbpaa.Pure
