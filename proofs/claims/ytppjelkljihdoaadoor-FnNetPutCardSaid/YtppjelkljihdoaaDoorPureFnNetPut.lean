/- For every code: what FnNetPut asks holds. No condition beyond those that the statement has. -/
import Derived.Test.YtppjelkljihdoaaDoorPrintF10
import Derived.Test.YtppjelkljihdoaaDoorPrintF11
import Derived.Test.YtppjelkljihdoaaDoorPrintF3
import Derived.Test.YtppjelkljihdoaaDoorPrintF7
import Derived.Test.YtppjelkljihdoaaDoorY
import Derived.Test.YtppjelkljihdoaaDoorMGetI
import Derived.Test.YtppjelkljihdoaaDoorMWkN
import Derived.Test.YtppjelkljihdoaaDoorMDrawNet
set_option linter.unusedVariables false
namespace Go.Proofs.YtppjelkljihdoaaDoor.Pure
open Go.RowKit Go.Proofs.YtppjelkljihdoaaDoor.Print Go.Proofs.YtppjelkljihdoaaDoorW.PrintWords Go.Proofs.YtppjelkljihdoaaDoorW.PrintLast Go.Proofs.YtppjelkljihdoaaDoorY Go.Proofs.YtppjelkljihdoaaDoor.M
theorem FnNetPut : laws_FnNetPut.Pure := by
  intro l0 hm hm2 hb
  refine Ev.rounds (g := fun k => laws_FnNetPut.f k l0) ?_
  unfold laws_FnNetPut.f
  by_cases hl : (l0.length : Int) > 1048576
  · exact Ev.pos hl (Ev.now _)
  obtain ⟨c, ec, hc⟩ := open_eq l0 hb
  obtain ⟨N, l, p', en, _, _, hN⟩ := anynet_ev c hc 0 (by omega) (by omega)
  have hlen := hN.len
  refine Ev.neg hl (Ev.bnd (a := (N, l)) ?_ ?_)
  · unfold spec_DrawNetPut.f
    exact Ev.bnd0 ec (Ev.bnd en (Ev.now _))
  have hsp : Ev (fun k => spec_NetOk.f k N l) (netOkB N l) := Ev.bnd (sok1_ev N l (by omega)) (Ev.now _)
  refine Ev.bnd0 (iNetPut_eq N l) (Ev.bnd (sNetPut_ev N l (by omega)) (Ev.pos rfl (Ev.bnd0 (a := netOkB N l) rfl (Ev.bnd hsp (Ev.neg (by simp) ?_)))))
  by_cases h : netOkB N l = true
  · have hP := netP_of h
    have e : ((putV N l).toList == ([] : List UInt8)) = false := by
      rw [putV_ok hP, B_toList]
      exact beq_eq_false_iff_ne.2 text_ne
    rw [e]
    refine Ev.step (fun k => laws_FnNetPut.j0.eq_2 _ _ _ _ _) (Ev.neg (by simp) ?_)
    rw [putV_ok hP]
    exact Ev.bnd (iGet_yes hP) (Ev.pos rfl (Ev.bnd (wkNet_ev N l (by omega)) (Ev.now _)))
  · have e0 : putV N l = B [] := by unfold putV; rw [if_neg h]
    have e : ((putV N l).toList == ([] : List UInt8)) = true := by
      rw [e0, B_toList]
      rfl
    rw [e]
    refine Ev.step (fun k => laws_FnNetPut.j0.eq_2 _ _ _ _ _) (Ev.pos rfl (Ev.bnd (sNetPut_ev N l (by omega)) (Ev.pos rfl (Ev.bnd0 (a := netOkB N l) rfl (Ev.bnd hsp (Ev.pos (by simp) (Ev.bnd0 (a := netOkB N l) rfl (Ev.now' ?_))))))))
    simpa using h
end Go.Proofs.YtppjelkljihdoaaDoor.Pure
