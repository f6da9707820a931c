import Derived.Test.YtpjmkghmjpbldaaMPieces
import Derived.Test.YtpjmkghmjpbldaaMDrawWalk
import Derived.Test.YtpjmkghmjpbldaaMWalk2
import Derived.Test.YtpjmkghmjpbldaaPrintF11
import Derived.Test.YtpjmkghmjpbldaaPrintF46
set_option linter.unusedVariables false
namespace Go.Proofs.Ytpjmkghmjpbldaa.Pure
open Go.RowKit Go.Proofs.Ytpjmkghmjpbldaa.Print Go.Proofs.YtpjmkghmjpbldaaW.PrintWords Go.Proofs.YtpjmkghmjpbldaaW.PrintLast Go.Proofs.YtpjmkghmjpbldaaY Go.Proofs.Ytpjmkghmjpbldaa.M
theorem costS_app (l : List Ar) (a b : List Int) : costS l (a ++ b) = costS l a + costS l b := by
  induction a with
  | nil => simp [costS]
  | cons k t ih => simp only [List.cons_append, costS, ih]; omega
theorem FnWalkCost : laws_FnWalkCost.Pure := by
  intro l0 l1 hm hm2 hb hm' hm2' hb'
  suffices h : Ev (fun k => laws_FnWalkCost.f k l0 l1) true by
    obtain ⟨K, h⟩ := h
    exact ⟨K, h K (Nat.le_refl _)⟩
  unfold laws_FnWalkCost.f
  have off : Ev (fun k => laws_FnWalkCost.j0 k l0 l1 true) true := Ev.step (fun k => laws_FnWalkCost.j0.eq_2 _ _ _ _) (Ev.pos rfl (Ev.now _))
  by_cases hl : (l0.length : Int) > 1048576
  · exact Ev.pos hl off
  refine Ev.neg hl ?_
  by_cases hl1 : (l1.length : Int) > 1048576
  · rw [decide_eq_true hl1]; exact off
  rw [decide_eq_false hl1]
  obtain ⟨n, l, w, ed, hN, hw, hx⟩ := drawWalk_ev l0 hb
  have hw2 : w.length ≤ 1000000000000 := by omega
  refine Ev.step (fun k => laws_FnWalkCost.j0.eq_2 _ _ _ _) (Ev.neg (by simp) (Ev.bnd (a := (n, l, w)) ?_ (Ev.bnd (icostV_ev n l w hN.long hw2) (Ev.bnd (scostV_ev n l w hN.long hw2) (Ev.pos rfl ?_)))))
  · unfold spec_DrawWalkCost.f
    exact Ev.bnd ed (Ev.now _)
  by_cases h : walkB n l w = true
  · obtain ⟨hP, hW⟩ := walkP_of h
    have hv : costV n l w = costS l w := by unfold costV; rw [if_pos h]
    obtain ⟨c0, c1⟩ := costS_bd hP w (In_drop hW)
    rw [hv, decide_eq_false (show ¬ costS l w < 0 by omega)]
    refine Ev.step (fun k => laws_FnWalkCost.j1.eq_2 _ _ _ _ _ _ _) (Ev.neg (by simp) ?_)
    have e : wrap64 ((w.length : Int) + 1) = ((w.length + 1 : Nat) : Int) := by rw [w64 (by omega) (by omega)]; omega
    show Ev (fun k => if wrap64 ((w.length : Int) + 1) = 0 then _ else _) _
    rw [e]
    have h0 := Int.emod_nonneg (l1.length : Int) (show ((w.length + 1 : Nat) : Int) ≠ 0 by omega)
    have h1 := Int.emod_lt_of_pos (l1.length : Int) (show (0 : Int) < ((w.length + 1 : Nat) : Int) by omega)
    refine Ev.neg (by omega) (Ev.bnd (iwok_ev n l w hN.long hw2) (Ev.pos h (Ev.pos h0 (Ev.pos (by show _ ≤ (w.length : Int); omega) ?_))))
    have v1 : ∀ c, costV n l (w.take c) = costS l (w.take c) := fun c => by unfold costV; rw [if_pos (walkB_of hP (hW.take c))]
    have v2 : ∀ c, costV n l (w.drop c) = costS l (w.drop c) := fun c => by unfold costV; rw [if_pos (walkB_of hP (hW.drop c))]
    refine Ev.bnd (icostV_ev n l _ hN.long (by rw [List.length_take]; show min _ w.length ≤ _; omega)) (Ev.bnd (icostV_ev n l _ hN.long (by rw [List.length_drop]; show w.length - _ ≤ _; omega)) (Ev.now' ?_))
    rw [v1, v2, ← costS_app, List.take_append_drop, w64 (by omega) (by omega)]
    simp
  · have hv : costV n l w = -1 := by unfold costV; rw [if_neg h]
    rw [hv]
    refine Ev.step (fun k => laws_FnWalkCost.j1.eq_2 _ _ _ _ _ _ _) (Ev.pos (by simp) (Ev.bnd (a := (-1 : Int)) (Ev.to (scostV_ev n l w hN.long hw2) hv) (Ev.pos rfl (Ev.bnd (iwok_ev n l w hN.long hw2) (Ev.now' (by simp [h]))))))
end Go.Proofs.Ytpjmkghmjpbldaa.Pure
