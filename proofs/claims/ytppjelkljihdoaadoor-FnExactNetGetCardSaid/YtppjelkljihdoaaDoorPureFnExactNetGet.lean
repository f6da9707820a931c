/- For every text: what FnExactNetGet asks holds. No condition beyond those that the statement has. -/
import Derived.Test.YtppjelkljihdoaaDoorPrintF12
import Derived.Test.YtppjelkljihdoaaDoorPrintF15
import Derived.Test.YtppjelkljihdoaaDoorPrintF5
import Derived.Test.YtppjelkljihdoaaDoorY
import Derived.Test.YtppjelkljihdoaaDoorMGetI
import Derived.Test.YtppjelkljihdoaaDoorMArcs
import Derived.Test.YtppjelkljihdoaaDoorMMark
set_option linter.unusedVariables false
namespace Go.Proofs.YtppjelkljihdoaaDoor.Pure
open Go.RowKit Go.Proofs.YtppjelkljihdoaaDoor.Print Go.Proofs.YtppjelkljihdoaaDoorW.PrintWords Go.Proofs.YtppjelkljihdoaaDoorW.PrintLast Go.Proofs.YtppjelkljihdoaaDoorY Go.Proofs.YtppjelkljihdoaaDoor.M
theorem exact_ev (s : ByteArray) (n : Int) (l : List Ar) (b : Bool) (hl : l.length ≤ 1000) (hs : Ev (fun k => spec_NetGet.f k s) (n, l, b)) (hi : Ev (fun k => impl_NetGet.f k s) (n, l, b)) (hsz : s.size ≤ 1048576) :
    Ev (fun k => laws_FnExactNetGet.f k s) true := by
  unfold laws_FnExactNetGet.f
  have he := eqNet_ev n l (by omega)
  have hm := markN_ev n 1 l (by omega) (by omega) (by omega)
  have hh := heldN_ev n 1 l.length (by omega) (by omega) (by omega)
  refine Ev.neg (by omega) (Ev.bnd hs (Ev.bnd hi (Ev.bnd he (Ev.pos rfl (Ev.step (fun k => laws_FnExactNetGet.j0.eq_2 _ _ _ _ _ _ _ _) (Ev.neg (by simp) (Ev.bnd hm (Ev.bnd hh (Ev.neg (by omega) (Ev.pos rfl (Ev.bnd hi (Ev.bnd he (Ev.pos rfl ?_)))))))))))))
  exact Ev.step (fun k => laws_FnExactNetGet.j1.eq_2 _ _ _ _ _) (Ev.neg (by simp) (Ev.bnd hh (Ev.neg (by omega) (Ev.pos rfl (Ev.now _)))))
theorem FnExactNetGet : laws_FnExactNetGet.Pure := by
  intro s hm
  refine Ev.rounds (g := fun k => laws_FnExactNetGet.f k s) ?_
  by_cases h : (s.size : Int) > 1048576
  · unfold laws_FnExactNetGet.f
    exact Ev.pos h (Ev.now _)
  · rcases get_both s (by omega) with ⟨n, l, hn, _, h1, h2⟩ | ⟨h1, h2⟩
    · exact exact_ev s n l true (by have := hn.few; omega) h1 h2 (by omega)
    · exact exact_ev s 0 [] false (by simp) h1 h2 (by omega)
end Go.Proofs.YtppjelkljihdoaaDoor.Pure
