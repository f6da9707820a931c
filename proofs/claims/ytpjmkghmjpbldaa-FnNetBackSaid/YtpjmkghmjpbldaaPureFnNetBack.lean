import Derived.Test.YtpjmkghmjpbldaaMBack
import Derived.Test.YtpjmkghmjpbldaaMDrawNet
import Derived.Test.YtpjmkghmjpbldaaPrintF22
import Derived.Test.YtpjmkghmjpbldaaPrintF24
import Derived.Test.YtpjmkghmjpbldaaPrintF4
set_option linter.unusedVariables false
namespace Go.Proofs.Ytpjmkghmjpbldaa.Pure
open Go.RowKit Go.Proofs.Ytpjmkghmjpbldaa.Print Go.Proofs.YtpjmkghmjpbldaaW.PrintWords Go.Proofs.YtpjmkghmjpbldaaW.PrintLast Go.Proofs.YtpjmkghmjpbldaaY Go.Proofs.Ytpjmkghmjpbldaa.M
theorem FnNetBack : laws_FnNetBack.Pure := by
  intro l0 hm hm2 hb
  suffices h : Ev (fun k => laws_FnNetBack.f k l0) true by
    obtain ⟨K, h⟩ := h
    exact ⟨K, h K (Nat.le_refl _)⟩
  unfold laws_FnNetBack.f
  by_cases hl : (l0.length : Int) > 1048576
  · exact Ev.pos hl (Ev.now _)
  obtain ⟨c, ec, hc⟩ := open_eq l0 hb
  obtain ⟨N, l, p', en, _, _, hN⟩ := anynet_ev c hc 0 (by omega) (by omega)
  have hlen := hN.len
  refine Ev.neg hl (Ev.bnd (a := (N, l)) ?_ ?_)
  · unfold spec_DrawNetBack.f
    exact Ev.bnd0 ec (Ev.bnd en (Ev.now _))
  refine Ev.bnd (iNetBack_ev N l (by omega)) (Ev.bnd (sNetBack_ev N l (by omega)) ?_)
  by_cases h : netOkB N l = true
  · have hv : backV N l = (N, turnL l) := by unfold backV; rw [if_pos h]
    rw [hv]
    refine Ev.bnd (wkNet_ev N (turnL l) (by rw [turnL_len]; omega)) (Ev.pos rfl (Ev.bnd0 (a := netOkB N l) rfl ?_))
    refine Ev.step (fun k => laws_FnNetBack.j0.eq_2 _ _ _ _ _ _) (Ev.neg (by simp [h]) ?_)
    have hP := netP_of h
    have loop : ∀ (d i : Nat), i ≤ l.length → l.length - i = d → Ev (fun k => laws_FnNetBack.l0 k (i : Int) N l N (turnL l)) true := by
      intro d
      induction d with
      | zero =>
        intro i hi hd
        have h2 : netOkB N (turnL l) = true := ok_of (turnP hP)
        refine Ev.step (fun k => laws_FnNetBack.l0.eq_2 _ _ _ _ _ _) (Ev.neg (by omega) (Ev.bnd0 (a := netOkB N (turnL l)) rfl (Ev.pos h2 (Ev.bnd (iNetBack_ev N (turnL l) (by rw [turnL_len]; omega)) ?_))))
        have hv2 : backV N (turnL l) = (N, l) := by unfold backV; rw [if_pos h2, turn2]
        rw [hv2]
        exact Ev.bnd (wkNet_ev N l (by omega)) (Ev.now _)
      | succ d ih =>
        intro i hi hd
        refine Ev.step (fun k => laws_FnNetBack.l0.eq_2 _ _ _ _ _ _) (Ev.pos (by omega) (Ev.pos (by omega) (Ev.pos (by rw [turnL_len]; omega) ?_)))
        rw [rdA, rdA, turnL_at l i (by omega), nxt i (by omega)]
        exact Ev.pos rfl (Ev.pos rfl (ih (i + 1) (by omega) (by omega)))
    exact loop l.length 0 (by omega) (by omega)
  · have hv : backV N l = (0, []) := by unfold backV; rw [if_neg h]
    rw [hv]
    refine Ev.bnd (wkNet_ev 0 [] (by simp)) (Ev.pos rfl (Ev.bnd0 (a := netOkB N l) rfl ?_))
    refine Ev.step (fun k => laws_FnNetBack.j0.eq_2 _ _ _ _ _ _) (Ev.pos (by simp [h]) (Ev.bnd (sNetBack_ev N l (by omega)) ?_))
    rw [hv]
    exact Ev.bnd (wkNet_ev 0 [] (by simp)) (Ev.now _)
end Go.Proofs.Ytpjmkghmjpbldaa.Pure
