/- For every code: what FnNetGet asks holds. No condition beyond those that the statement has. -/
import Derived.Test.YtppjelkljihdoaaDoorPrintF10
import Derived.Test.YtppjelkljihdoaaDoorPrintF4
import Derived.Test.YtppjelkljihdoaaDoorY
import Derived.Test.YtppjelkljihdoaaDoorMGetI
import Derived.Test.YtppjelkljihdoaaDoorMWkN
import Derived.Test.YtppjelkljihdoaaDoorMDrawText
set_option linter.unusedVariables false
namespace Go.Proofs.YtppjelkljihdoaaDoor.Pure
open Go.RowKit Go.Proofs.YtppjelkljihdoaaDoor.Print Go.Proofs.YtppjelkljihdoaaDoorW.PrintWords Go.Proofs.YtppjelkljihdoaaDoorW.PrintLast Go.Proofs.YtppjelkljihdoaaDoorY Go.Proofs.YtppjelkljihdoaaDoor.M
theorem FnNetGet : laws_FnNetGet.Pure := by
  intro l0 hm hm2 hb
  refine Ev.rounds (g := fun k => laws_FnNetGet.f k l0) ?_
  unfold laws_FnNetGet.f
  by_cases hl : (l0.length : Int) > 1048576
  · exact Ev.pos hl (Ev.now _)
  obtain ⟨s, es, hs⟩ := drawText_ev l0 hb
  refine Ev.neg hl (Ev.bnd es ?_)
  rcases get_both s (by omega) with ⟨n, l, hn, he, h1, h2⟩ | ⟨h1, h2⟩
  · have h3 := hn.few
    refine Ev.bnd h2 (Ev.bnd h1 (Ev.neg (by simp) (Ev.bnd (wkNet_ev n l (by omega)) (Ev.pos rfl ?_))))
    exact Ev.step (fun k => laws_FnNetGet.j0.eq_2 _ _ _ _ _ _ _ _ _) (Ev.neg (by simp) (Ev.bnd0 (iNetPut_eq n l) (Ev.pos (by rw [toList_iff, putV_ok hn, he]) (Ev.bnd0 (a := netOkB n l) rfl (Ev.now' (ok_of hn))))))
  · refine Ev.bnd h2 (Ev.bnd h1 (Ev.neg (by simp) (Ev.bnd (wkNet_ev 0 [] (by simp)) (Ev.pos rfl ?_))))
    exact Ev.step (fun k => laws_FnNetGet.j0.eq_2 _ _ _ _ _ _ _ _ _) (Ev.pos (by simp) (Ev.pos (by simp) (Ev.bnd (wkNet_ev 0 [] (by simp)) (Ev.now _))))
end Go.Proofs.YtppjelkljihdoaaDoor.Pure
