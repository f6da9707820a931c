/- For every two codes: what FnStairThree asks holds. No condition beyond those that the statement has. -/
import Derived.Test.YtfpfaaibgaejjaaPrintF6
import Derived.Test.YtfpfaaibgaejjaaY
import Derived.Test.YtfpfaaibgaejjaaMSteps
import Derived.Test.YtfpfaaibgaejjaaMDrawSt
import Derived.Test.YtfpfaaibgaejjaaMProfEv
set_option linter.unusedVariables false
namespace Go.Proofs.Ytfpfaaibgaejjaa.Pure
open Go.RowKit Go.Proofs.Ytfpfaaibgaejjaa.Print Go.Proofs.YtfpfaaibgaejjaaW.PrintWords Go.Proofs.YtfpfaaibgaejjaaW.PrintLast Go.Proofs.YtfpfaaibgaejjaaY Go.Proofs.Ytfpfaaibgaejjaa.M
theorem three {a b c : List St} (ha : okB a = true) (hb : okB b = true) (hc : okB c = true) : linkV (linkV a b) c = linkV a (linkV b c) := by
  obtain ⟨h1, h2⟩ := link_facts ha hb
  obtain ⟨g1, g2⟩ := link_facts hb hc
  obtain ⟨h3, h4⟩ := link_facts h1 hc
  obtain ⟨g3, g4⟩ := link_facts ha g1
  refine up_eq (ok_up h3).1 (ok_up g3).1 (fun t _ => ?_)
  rw [← up_arr (ok_up h3).1, ← up_arr (ok_up g3).1, h4, g4, h2]
  unfold thn
  by_cases c1 : arr t a < 99999
  · rw [if_pos c1, if_pos c1, g2]
    rfl
  · rw [if_neg c1, if_neg c1, if_neg c1]
theorem FnStairThree : laws_FnStairThree.Pure := by
  intro l0 l1 _ _ hb _ _ hb1
  refine Ev.rounds (g := fun k => laws_FnStairThree.f k l0 l1) ?_
  unfold laws_FnStairThree.f
  have yes : Ev (fun k => laws_FnStairThree.j0 k l0 l1 true) true := Ev.step (fun k => laws_FnStairThree.j0.eq_2 _ _ _ _) (Ev.pos rfl (Ev.now _))
  refine Ev.ite (fun _ => yes) (fun _ => ?_)
  by_cases c0 : (l1.length : Int) > 1048576
  · rw [decide_eq_true c0]; exact yes
  rw [decide_eq_false c0]
  obtain ⟨a, b, hd, ha, hb'⟩ := drawLink_ev l0 hb
  obtain ⟨c, e, hd2, hc, _⟩ := drawLink_ev l1 hb1
  have hs := slink_ev a b (by omega) (by omega)
  have hl := linkV_len a b
  have hl2 := linkV_len b c
  have hw := wkS_ev (linkV a b) (by omega)
  have bad : Ev (fun k => laws_FnStairThree.j1 k a b c (linkV a b) true) true :=
    Ev.step (fun k => laws_FnStairThree.j1.eq_2 _ _ _ _ _ _) (Ev.pos rfl (Ev.bnd hs (Ev.bnd hw (Ev.now _))))
  refine Ev.step (fun k => laws_FnStairThree.j0.eq_2 _ _ _ _) (Ev.neg (by simp) (Ev.bnd (a := (a, b)) hd (Ev.bnd (a := (c, e)) hd2 (Ev.bnd (ilink_ev a b (by omega) (by omega)) (Ev.bnd hs (Ev.bnd hw (Ev.pos rfl (Ev.bnd (iok_ev a (by omega)) (Ev.ite (fun c1 => Ev.bnd (iok_ev b (by omega)) (Ev.ite (fun c2 => Ev.bnd (iok_ev c (by omega)) ?_) (fun _ => bad))) (fun _ => bad))))))))))
  by_cases c3 : okB c = true
  · rw [show (!okB c) = false from by rw [c3]; rfl]
    refine Ev.step (fun k => laws_FnStairThree.j1.eq_2 _ _ _ _ _ _) (Ev.neg (by simp) (Ev.bnd (ilink_ev _ c (by omega) (by omega)) (Ev.bnd (ilink_ev b c (by omega) (by omega)) (Ev.bnd (ilink_ev a _ (by omega) (by omega)) ?_))))
    rw [three c1 c2 c3]
    have hl3 := linkV_len a (linkV b c)
    exact Ev.bnd (wkS_ev _ (by omega)) (Ev.now _)
  · rw [show (!okB c) = true from by rw [Bool.eq_false_iff.2 c3]; rfl]
    exact bad
end Go.Proofs.Ytfpfaaibgaejjaa.Pure
