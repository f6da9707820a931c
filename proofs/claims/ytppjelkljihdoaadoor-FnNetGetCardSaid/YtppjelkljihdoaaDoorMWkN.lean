/- Two nets compared. -/
import Derived.Test.YtppjelkljihdoaaDoorY
import Derived.Test.YtppjelkljihdoaaDoorMNet
import Derived.Test.YtppjelkljihdoaaDoorPrintF13
set_option linter.unusedVariables false
set_option linter.unusedSimpArgs false
namespace Go.Proofs.YtppjelkljihdoaaDoor.M
open Go.RowKit Go.Proofs.YtppjelkljihdoaaDoor.Print Go.Proofs.YtppjelkljihdoaaDoorW.PrintWords Go.Proofs.YtppjelkljihdoaaDoorW.PrintLast Go.Proofs.YtppjelkljihdoaaDoorY
theorem wkNet_loop (n m : Int) (l : List Ar) (hl : l.length ≤ 1000000000) (d : Nat) : ∀ i : Nat, i ≤ l.length → l.length - i = d → Ev (fun k => laws_wkNet.l0 k (i : Int) n l m l) true := by
  induction d with
  | zero =>
    intro i hi hd
    exact Ev.step (fun k => laws_wkNet.l0.eq_2 _ _ _ _ _ _) (Ev.neg (by omega) (Ev.now _))
  | succ d ih =>
    intro i hi hd
    refine Ev.step (fun k => laws_wkNet.l0.eq_2 _ _ _ _ _ _) (Ev.pos (by omega) (Ev.pos (by omega) (Ev.pos (by omega) (Ev.neg (by simp) ?_))))
    rw [nxt i (by omega)]
    exact ih (i + 1) (by omega) (by omega)
theorem wkNet_ev (n : Int) (l : List Ar) (hl : l.length ≤ 1000000000) : Ev (fun k => laws_wkNet.f k n l n l) true := by
  unfold laws_wkNet.f
  refine Ev.pos rfl (Ev.step (fun k => laws_wkNet.j0.eq_2 _ _ _ _ _ _) (Ev.neg (by simp) ?_))
  exact wkNet_loop n n l hl l.length 0 (by omega) (by omega)
end Go.Proofs.YtppjelkljihdoaaDoor.M
