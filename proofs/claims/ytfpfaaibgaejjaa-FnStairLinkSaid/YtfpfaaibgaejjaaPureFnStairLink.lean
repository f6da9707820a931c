/- For every code: what FnStairLink asks holds. No condition beyond those that the statement has. -/
import Derived.Test.YtfpfaaibgaejjaaPrintF22
import Derived.Test.YtfpfaaibgaejjaaPrintF8
import Derived.Test.YtfpfaaibgaejjaaY
import Derived.Test.YtfpfaaibgaejjaaMSteps
import Derived.Test.YtfpfaaibgaejjaaMDrawSt
import Derived.Test.YtfpfaaibgaejjaaMProfEv
set_option linter.unusedVariables false
namespace Go.Proofs.Ytfpfaaibgaejjaa.Pure
open Go.RowKit Go.Proofs.Ytfpfaaibgaejjaa.Print Go.Proofs.YtfpfaaibgaejjaaW.PrintWords Go.Proofs.YtfpfaaibgaejjaaW.PrintLast Go.Proofs.YtfpfaaibgaejjaaY Go.Proofs.Ytfpfaaibgaejjaa.M
theorem FnStairLink : laws_FnStairLink.Pure := by
  intro l0 _ _ hb
  refine Ev.rounds (g := fun k => laws_FnStairLink.f k l0) ?_
  unfold laws_FnStairLink.f
  refine Ev.ite (fun _ => Ev.now _) (fun _ => ?_)
  obtain ⟨a, b, hd, ha, hb'⟩ := drawLink_ev l0 hb
  have hs := slink_ev a b (by omega) (by omega)
  have hl := linkV_len a b
  have hw := wkS_ev (linkV a b) (by omega)
  have bad : ¬ (okB a = true ∧ okB b = true) → Ev (fun k => laws_FnStairLink.j0 k a b (linkV a b) true) true := fun _ =>
    Ev.step (fun k => laws_FnStairLink.j0.eq_2 _ _ _ _ _) (Ev.pos rfl (Ev.bnd hs (Ev.bnd hw (Ev.now _))))
  refine Ev.bnd (a := (a, b)) hd (Ev.bnd (ilink_ev a b (by omega) (by omega)) (Ev.bnd hs (Ev.bnd hw (Ev.pos rfl (Ev.bnd (iok_ev a (by omega)) (Ev.ite (fun c => Ev.bnd (iok_ev b (by omega)) ?_) (fun c => bad (fun h => c h.1))))))))
  by_cases c2 : okB b = true
  · obtain ⟨hok, hat⟩ := link_facts c c2
    rw [show (!okB b) = false from by rw [c2]; rfl]
    refine Ev.step (fun k => laws_FnStairLink.j0.eq_2 _ _ _ _ _) (Ev.neg (by simp) ?_)
    have at_ := fun (s : List St) (h : okB s = true) (hl : s.length ≤ 1000000000000) (t : Int) => (by have := iat_ev t s hl; rw [atV_ok h] at this; exact this : Ev (fun k => impl_StairAt.f k s t) (arr t s))
    have loop : ∀ (d i : Nat), i + d = 200 → Ev (fun k => laws_FnStairLink.l0 k a b (linkV a b) (i : Int)) true := by
      intro d
      induction d with
      | zero =>
        intro i hi
        refine Ev.step (fun k => laws_FnStairLink.l0.eq_2 _ _ _ _ _) (Ev.neg (by omega) (Ev.bnd (iok_ev _ (by omega)) ?_))
        rw [hok]
        exact Ev.now _
      | succ d ih =>
        intro i hi
        have h := hat (i : Int)
        unfold thn at h
        refine Ev.step (fun k => laws_FnStairLink.l0.eq_2 _ _ _ _ _) (Ev.pos (by omega) (Ev.bnd (at_ a c (by omega) _) ?_))
        rw [nxp i (by omega)]
        by_cases c3 : arr (i : Int) a < 99999
        · rw [if_pos c3] at h
          exact Ev.pos c3 (Ev.bnd (at_ b c2 (by omega) _) (Ev.bnd (at_ _ hok (by omega) _) (Ev.pos h (ih (i + 1) (by omega)))))
        · rw [if_neg c3] at h
          exact Ev.neg c3 (Ev.bnd (at_ _ hok (by omega) _) (Ev.pos h (ih (i + 1) (by omega))))
    exact loop 200 0 (by omega)
  · rw [show (!okB b) = true from by rw [Bool.eq_false_iff.2 c2]; rfl]
    exact bad (fun h => c2 h.2)
end Go.Proofs.Ytfpfaaibgaejjaa.Pure
