import Derived.Test.YtpjmkghmjpbldaaMPieces
import Derived.Test.YtpjmkghmjpbldaaMDrawWalk
import Derived.Test.YtpjmkghmjpbldaaMWalk2
import Derived.Test.YtpjmkghmjpbldaaPrintF9
set_option linter.unusedVariables false
namespace Go.Proofs.Ytpjmkghmjpbldaa.Pure
open Go.RowKit Go.Proofs.Ytpjmkghmjpbldaa.Print Go.Proofs.YtpjmkghmjpbldaaW.PrintWords Go.Proofs.YtpjmkghmjpbldaaW.PrintLast Go.Proofs.YtpjmkghmjpbldaaY Go.Proofs.Ytpjmkghmjpbldaa.M
theorem FnWalkOk : laws_FnWalkOk.Pure := by
  intro l0 l1 hm hm2 hb hm' hm2' hb'
  suffices h : Ev (fun k => laws_FnWalkOk.f k l0 l1) true by
    obtain ⟨K, h⟩ := h
    exact ⟨K, h K (Nat.le_refl _)⟩
  unfold laws_FnWalkOk.f
  have off : Ev (fun k => laws_FnWalkOk.j0 k l0 l1 true) true := Ev.step (fun k => laws_FnWalkOk.j0.eq_2 _ _ _ _) (Ev.pos rfl (Ev.now _))
  by_cases hl : (l0.length : Int) > 1048576
  · exact Ev.pos hl off
  refine Ev.neg hl ?_
  by_cases hl1 : (l1.length : Int) > 1048576
  · rw [decide_eq_true hl1]; exact off
  rw [decide_eq_false hl1]
  obtain ⟨n, l, w, ed, hN, hw, hx⟩ := drawWalk_ev l0 hb
  refine Ev.step (fun k => laws_FnWalkOk.j0.eq_2 _ _ _ _) (Ev.neg (by simp) (Ev.bnd ed (Ev.bnd (iwok_ev n l w hN.long (by omega)) (Ev.bnd (sWalkOk_ev n l w hN.long (by omega)) (Ev.neg (by simp) ?_)))))
  by_cases h : walkB n l w = true
  · refine Ev.step (fun k => laws_FnWalkOk.j1.eq_2 _ _ _ _ _ _ _) (Ev.neg (by simp [h]) ?_)
    obtain ⟨hP, hW⟩ := walkP_of h
    have e : wrap64 ((w.length : Int) + 1) = ((w.length + 1 : Nat) : Int) := by rw [w64 (by omega) (by omega)]; omega
    show Ev (fun k => if wrap64 ((w.length : Int) + 1) = 0 then _ else _) _
    rw [e]
    have h0 := Int.emod_nonneg (l1.length : Int) (show ((w.length + 1 : Nat) : Int) ≠ 0 by omega)
    have h1 := Int.emod_lt_of_pos (l1.length : Int) (show (0 : Int) < ((w.length + 1 : Nat) : Int) by omega)
    refine Ev.neg (by omega) (Ev.pos h0 (Ev.pos (by show _ ≤ (w.length : Int); omega) ?_))
    refine Ev.bnd (a := true) (Ev.to (iwok_ev n l _ hN.long (by rw [List.length_take]; show min _ w.length ≤ _; omega)) (walkB_of hP (hW.take _))) (Ev.pos rfl ?_)
    exact Ev.bnd (a := true) (Ev.to (iwok_ev n l _ hN.long (by rw [List.length_drop]; show w.length - _ ≤ _; omega)) (walkB_of hP (hW.drop _))) (Ev.now _)
  · refine Ev.step (fun k => laws_FnWalkOk.j1.eq_2 _ _ _ _ _ _ _) (Ev.pos (by simp [h]) (Ev.bnd (sWalkOk_ev n l w hN.long (by omega)) (Ev.now' (by simp))))
end Go.Proofs.Ytpjmkghmjpbldaa.Pure
