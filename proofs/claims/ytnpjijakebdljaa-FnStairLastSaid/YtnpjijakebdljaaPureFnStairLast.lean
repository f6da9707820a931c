/- For every code: what FnStairLast asks of stairs holds. No condition beyond those that the statement has. -/
import Derived.Test.YtnpjijakebdljaaPrintF10
import Derived.Test.YtnpjijakebdljaaPrintF34
import Derived.Test.YtnpjijakebdljaaY
import Derived.Test.YtnpjijakebdljaaMTidy
import Derived.Test.YtnpjijakebdljaaMStairLaws
set_option linter.unusedVariables false
namespace Go.Proofs.Ytnpjijakebdljaa.Pure
open Go.RowKit Go.Proofs.Ytnpjijakebdljaa.Print Go.Proofs.YtnpjijakebdljaaW.PrintWords Go.Proofs.YtnpjijakebdljaaW.PrintLast Go.Proofs.YtnpjijakebdljaaY Go.Proofs.Ytnpjijakebdljaa.M
theorem FnStairLast : laws_FnStairLast.Pure := by
  intro l _ _ hb
  refine Ev.rounds (g := fun k => laws_FnStairLast.f k l) ?_
  unfold laws_FnStairLast.f
  refine Ev.ite (fun _ => Ev.now _) (fun _ => ?_)
  obtain ⟨s, a, hd, hl, ha0, ha⟩ := drawAt_ev l hb
  have hl2 : s.length ≤ 1000000000000 := by omega
  have hd2 : Ev (fun k => spec_DrawStairLast.f k l) (s, a) := by
    unfold spec_DrawStairLast.f
    exact Ev.bnd hd (Ev.now _)
  refine Ev.bnd hd2 (Ev.bnd (ilast_ev a s hl2) (Ev.bnd (slast_ev a s hl2) (Ev.pos rfl (Ev.bnd (iok_ev s hl2) ?_))))
  cases hok : okB s with
  | false => exact Ev.step (fun k => laws_FnStairLast.j0.eq_2 _ _ _ _ _) (Ev.pos rfl (Ev.bnd (slast_ev a s hl2) (Ev.now' (by simp))))
  | true =>
    have hs := stair_of_ok hok
    have hv : lastV s a = lst a (-1) s := by unfold lastV; rw [if_pos hok]
    rw [hv]
    refine Ev.step (fun k => laws_FnStairLast.j0.eq_2 _ _ _ _ _) (Ev.neg (by simp) ?_)
    rcases lst_cases a s (-1) hs.2.1 with ⟨h1, h2⟩ | ⟨x, hx, h1, h2, h3⟩
    · rw [h1]
      refine Ev.pos (by omega) ?_
      rw [w64 (x := -1 + 1) (by omega) (by omega)]
      refine Ev.bnd (iat_ev _ s hl2) (Ev.now' ?_)
      rw [atV_ok hok]
      refine decide_eq_true ?_
      rcases arr_cases (-1 + 1) s with ⟨h, _⟩ | ⟨y, hy, _, h⟩
      · omega
      · have := h2 y hy; omega
    · rw [h2]
      have hvx := hs.1 x hx
      refine Ev.neg (by have := hvx.1; omega) (Ev.bnd (iat_ev _ s hl2) ?_)
      rw [atV_ok hok]
      refine Ev.pos (by have := arr_min x.f0 s hs.2.1 x hx (Int.le_refl _); omega) ?_
      rw [w64 (x := x.f0 + 1) (by have := hvx.1; omega) (by have := hvx.2.1; omega)]
      refine Ev.bnd (iat_ev _ s hl2) (Ev.now' ?_)
      rw [atV_ok hok]
      refine decide_eq_true ?_
      rcases arr_cases (x.f0 + 1) s with ⟨h, _⟩ | ⟨y, hy, h4, h⟩
      · omega
      · by_cases h5 : y.f1 ≤ a
        · have := h3 y hy h5; omega
        · omega
end Go.Proofs.Ytnpjijakebdljaa.Pure
