import Derived.Test.YtpjmkghmjpbldaaMPieces
import Derived.Test.YtpjmkghmjpbldaaMDrawWalk
import Derived.Test.YtpjmkghmjpbldaaMWalk2
import Derived.Test.YtpjmkghmjpbldaaMWk
import Derived.Test.YtpjmkghmjpbldaaPrintF13
import Derived.Test.YtpjmkghmjpbldaaPrintF49
set_option linter.unusedVariables false
namespace Go.Proofs.Ytpjmkghmjpbldaa.Pure
open Go.RowKit Go.Proofs.Ytpjmkghmjpbldaa.Print Go.Proofs.YtpjmkghmjpbldaaW.PrintWords Go.Proofs.YtpjmkghmjpbldaaW.PrintLast Go.Proofs.YtpjmkghmjpbldaaY Go.Proofs.Ytpjmkghmjpbldaa.M
theorem FnWalkNodes : laws_FnWalkNodes.Pure := by
  intro l0 hm hm2 hb
  suffices h : Ev (fun k => laws_FnWalkNodes.f k l0) true by
    obtain ⟨K, h⟩ := h
    exact ⟨K, h K (Nat.le_refl _)⟩
  unfold laws_FnWalkNodes.f
  by_cases hl : (l0.length : Int) > 1048576
  · exact Ev.pos hl (Ev.now _)
  obtain ⟨n, l, w, ed, hN, hw, hx⟩ := drawWalk_ev l0 hb
  have hw2 : w.length ≤ 1000000000000 := by omega
  have hnl : (nodesV n l w).length ≤ 1000000000 := by
    unfold nodesV
    split
    · simp [nodes, tos]; omega
    · simp
  refine Ev.neg hl (Ev.bnd (a := (n, l, w)) ?_ (Ev.bnd (inodesV_ev n l w hN.long hw2) (Ev.bnd (snodesV_ev n l w hN.long hw2) (Ev.bnd (wkI_ev _ hnl) (Ev.pos rfl ?_)))))
  · unfold spec_DrawWalkNodes.f
    exact Ev.bnd ed (Ev.now _)
  by_cases h : walkB n l w = true ∧ w.length ≠ 0
  · have hv : nodesV n l w = nodes l w := by unfold nodesV; rw [if_pos h]
    obtain ⟨hP, hW⟩ := walkP_of h.1
    have hlen : (nodes l w).length = w.length + 1 := by simp [nodes, tos]
    rw [hv, show (((nodes l w).length : Int) == 0) = false from by rw [hlen]; simp; omega]
    refine Ev.step (fun k => laws_FnWalkNodes.j0.eq_2 _ _ _ _ _ _) (Ev.neg (by simp) ?_)
    have nat : ∀ i, i < w.length → (nodes l w).getD (i + 1) 0 = (arc l (w.getD i 0)).f1 := fun i hi => by
      unfold nodes tos
      rw [List.getD_cons_succ, getDI _ _ (by rw [List.length_map]; exact hi), List.getElem_map, getDI w i hi]
    have loop : ∀ (d i : Nat), i ≤ w.length → w.length - i = d → Ev (fun k => laws_FnWalkNodes.l0 k w (nodes l w) (i : Int) n l) true := by
      intro d
      induction d with
      | zero =>
        intro i hi hd
        refine Ev.step (fun k => laws_FnWalkNodes.l0.eq_2 _ _ _ _ _ _) (Ev.neg (by omega) (Ev.now' ?_))
        rw [hlen, w64 (by omega) (by omega)]
        simp
      | succ d ih =>
        intro i hi hd
        have hg := hW.1 i (by omega)
        refine Ev.step (fun k => laws_FnWalkNodes.l0.eq_2 _ _ _ _ _ _) (Ev.pos (by omega) (Ev.pos (by omega) ?_))
        rw [rdI, rdI, nxt i (by omega), rdI, rdArc]
        refine Ev.pos hg.1.1 (Ev.pos hg.1.2 (Ev.pos (by rw [hlen]; omega) (Ev.pos ?_ (Ev.pos (by omega) (Ev.pos (by rw [hlen]; omega) (Ev.pos (nat i (by omega)).symm (ih (i + 1) (by omega) (by omega))))))))
        by_cases hi0 : i = 0
        · subst hi0; rfl
        · have := hg.2 (by omega)
          rw [← this, ← nat (i - 1) (by omega), show i - 1 + 1 = i by omega]
    exact loop w.length 0 (by omega) (by omega)
  · have hv : nodesV n l w = [] := by unfold nodesV; rw [if_neg h]
    rw [hv]
    refine Ev.step (fun k => laws_FnWalkNodes.j0.eq_2 _ _ _ _ _ _) (Ev.pos (by simp) (Ev.bnd (snodesV_ev n l w hN.long hw2) ?_))
    rw [hv]
    exact Ev.bnd (wkI_ev _ (by simp)) (Ev.now _)
end Go.Proofs.Ytpjmkghmjpbldaa.Pure
