/- For every two codes: what FnNearWay asks holds. No condition beyond those that the statement has. -/
import Derived.Test.YtbmoonciggfbpaaMNear4
import Derived.Test.YtbmoonciggfbpaaMDrawNO
import Derived.Test.YtbmoonciggfbpaaMWk
import Derived.Test.YtbmoonciggfbpaaPrintF13
import Derived.Test.YtbmoonciggfbpaaPrintF4
set_option linter.unusedVariables false
namespace Go.Proofs.Ytbmoonciggfbpaa.Pure
open Go.RowKit Go.Proofs.Ytbmoonciggfbpaa.Print Go.Proofs.YtbmoonciggfbpaaW.PrintWords Go.Proofs.YtbmoonciggfbpaaW.PrintLast Go.Proofs.YtbmoonciggfbpaaY Go.Proofs.Ytbmoonciggfbpaa.M
theorem FnNearWay : laws_FnNearWay.Pure := by
  intro l0 l1 hm hm2 hb hk hk2 hb2
  suffices h : Ev (fun k => laws_FnNearWay.f k l0 l1) true by
    obtain ⟨K, h⟩ := h
    exact ⟨K, h K (Nat.le_refl _)⟩
  unfold laws_FnNearWay.f
  have out : Ev (fun k => laws_FnNearWay.j0 k l0 l1 true) true := Ev.step (fun k => laws_FnNearWay.j0.eq_2 _ _ _ _) (Ev.pos rfl (Ev.now _))
  refine Ev.ite (fun _ => out) (fun _ => ?_)
  by_cases hl : (l1.length : Int) > 1048576
  · rw [decide_eq_true hl]; exact out
  rw [decide_eq_false hl]
  obtain ⟨n, l, v, ed, hN⟩ := drawNO_ev l0 hb
  have hlen := hN.len
  obtain ⟨d, hi, hs, hd, hz, hM⟩ := nearAll_ev n l v (by omega)
  refine Ev.step (fun k => laws_FnNearWay.j0.eq_2 _ _ _ _) (Ev.neg (by simp) (Ev.bnd (a := (n, l, v)) ?_ (Ev.bnd hi (Ev.bnd hs (Ev.bnd (wkI_ev d (by omega)) (Ev.pos rfl ?_))))))
  · unfold spec_DrawNearAll.f
    exact Ev.bnd ed (Ev.now _)
  have short : ((d.length : Int) == 0) = true → Ev (fun k => laws_FnNearWay.j1 k l1 v d ((d.length : Int) == 0) n l) true := fun h => by
    rw [h]
    exact Ev.step (fun k => laws_FnNearWay.j1.eq_2 _ _ _ _ _ _ _) (Ev.pos rfl (Ev.bnd hs (Ev.bnd (wkI_ev d (by omega)) (Ev.now _))))
  cases hb1 : nodeB n l v with
  | false => exact short (by rw [hz hb1]; rfl)
  | true =>
    obtain ⟨hP, h0, h1⟩ := nodeB_of hb1
    obtain ⟨M, b, rfl⟩ := hM hb1
    have n1 := hP.lo
    have n8 := hP.hi
    have hlM : (costsL M).length = n.toNat := by unfold costsL; rw [List.length_map]; exact b.len
    rw [show (((costsL M).length : Int) == 0) = false from by rw [hlM]; simp; omega]
    have o0 : 0 ≤ (l1.length : Int) % n := Int.emod_nonneg _ (by omega)
    have o1 : (l1.length : Int) % n < n := Int.emod_lt_of_pos _ (by omega)
    refine Ev.step (fun k => laws_FnNearWay.j1.eq_2 _ _ _ _ _ _ _) (Ev.neg (by simp) (Ev.neg (by omega) ?_))
    generalize (l1.length : Int) % n = o at o0 o1 ⊢
    obtain ⟨e, ei, _, _, _, eM⟩ := nearAll_ev n l o (by omega)
    have ho : nodeB n l o = true := by
      unfold nodeB
      rw [ok_of hP, w64 (x := n - 1) (by omega) (by omega)]
      simp; omega
    obtain ⟨M2, b2, rfl⟩ := eM ho
    have hlM2 : (costsL M2).length = n.toNat := by unfold costsL; rw [List.length_map]; exact b2.len
    refine Ev.bnd ei ?_
    have hP' := turnP hP
    have loop : ∀ (q j : Nat), (j : Int) + q = n → Ev (fun k => laws_FnNearWay.l0 k (costsL M) o (costsL M2) (j : Int) n l) true := by
      intro q
      induction q with
      | zero => intro j hj; exact Ev.step (fun k => laws_FnNearWay.l0.eq_2 _ _ _ _ _ _ _) (Ev.neg (by omega) (Ev.now _))
      | succ q ih =>
        intro j hj
        refine Ev.step (fun k => laws_FnNearWay.l0.eq_2 _ _ _ _ _ _ _) (Ev.pos (by omega) (Ev.pos o0 (Ev.pos (by omega) ?_)))
        rw [nxt j (by omega)]
        have nx := ih (j + 1) (by omega)
        have e1 : Go.Proofs.YtbmoonciggfbpaaW.PrintWords.rd (costsL M) o = (atM M o).f0 := rd_costs b.toInv o o0 o1
        have e2 : Go.Proofs.YtbmoonciggfbpaaW.PrintWords.rd (costsL M2) (j : Int) = (atM M2 (j : Int)).f0 := rd_costs b2.toInv (j : Int) (by omega) (by omega)
        have e3 : Go.Proofs.YtbmoonciggfbpaaW.PrintWords.rd (costsL M) (j : Int) = (atM M (j : Int)).f0 := rd_costs b.toInv (j : Int) (by omega) (by omega)
        rw [e1, e2, e3]
        have b1 := b.bounds hP' o o0 o1
        have b3 := b2.bounds hP' (j : Int) (by omega) (by omega)
        have b4 := b.top (j : Int) (by omega) (by omega)
        rw [w64 (x := (atM M o).f0 + (atM M2 (j : Int)).f0) (by omega) (by omega)]
        refine Ev.ite (fun c1 => Ev.pos (by omega) (Ev.pos (by omega) (Ev.ite (fun c2 => Ev.pos (by omega) (Ev.neg ?_ nx)) (fun _ => nx)))) (fun _ => nx)
        obtain ⟨p, hp, hc, hlt⟩ := best_cost hP' b o0 o1 (by omega)
        obtain ⟨q2, hq, hc2, hlt2⟩ := best_cost hP' b2 (show (0 : Int) ≤ (j : Int) by omega) (by omega) (by omega)
        by_cases big : (atM M2 (j : Int)).f0 + (atM M o).f0 < 99999
        · have := (best_le hP' b (by omega) (by omega) (pth_app hq hp) (by rw [cst_app]; omega)).1
          rw [cst_app] at this
          omega
        · omega
    exact loop n.toNat 0 (by omega)
end Go.Proofs.Ytbmoonciggfbpaa.Pure
