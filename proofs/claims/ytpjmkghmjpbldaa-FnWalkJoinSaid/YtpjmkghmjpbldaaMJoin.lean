/- Two walks, one behind the other. -/
import Derived.Test.YtpjmkghmjpbldaaY
import Derived.Test.YtpjmkghmjpbldaaMNet
import Derived.Test.YtpjmkghmjpbldaaMWalk
import Derived.Test.YtpjmkghmjpbldaaMWalk2
import Derived.Test.YtpjmkghmjpbldaaMPieces
import Derived.Test.YtpjmkghmjpbldaaPrintF104
import Derived.Test.YtpjmkghmjpbldaaPrintF22
import Derived.Test.YtpjmkghmjpbldaaPrintF53
import Derived.Test.YtpjmkghmjpbldaaPrintF54
import Derived.Test.YtpjmkghmjpbldaaPrintF90
set_option linter.unusedVariables false
set_option linter.unusedSimpArgs false
namespace Go.Proofs.Ytpjmkghmjpbldaa.M
open Go.RowKit Go.Proofs.Ytpjmkghmjpbldaa.Print Go.Proofs.YtpjmkghmjpbldaaW.PrintWords Go.Proofs.YtpjmkghmjpbldaaW.PrintLast Go.Proofs.YtpjmkghmjpbldaaY
theorem iConcat_ev (a b : List Int) (ha : a.length ≤ 1000000000) (hb : b.length ≤ 1000000000) : Ev (fun k => slices_Concat_int_int.f k [a, b]) (a ++ b) := by
  unfold slices_Concat_int_int.f
  have n1 : wrap64 ((0 : Int) + 1) = 1 := by rw [w64 (by omega) (by omega)]; rfl
  have n2 : wrap64 ((1 : Int) + 1) = 2 := by rw [w64 (by omega) (by omega)]; rfl
  have e2 : (([a, b] : List (List Int)).length : Int) = 2 := rfl
  rw [e2]
  refine Ev.step (fun k => slices_Concat_int_int.l0.eq_2 _ _ _ _ _ _) (Ev.pos (by omega) (Ev.pos (by omega) (Ev.pos (by omega) ?_)))
  show Ev (fun k => if wrap64 ((0 : Int) + (a.length : Int)) < 0 then none else slices_Concat_int_int.l0 k [a, b] (wrap64 ((0 : Int) + (a.length : Int))) [a, b] 2 (wrap64 ((0 : Int) + 1))) (a ++ b)
  rw [n1, w64 (x := (0 : Int) + (a.length : Int)) (by omega) (by omega)]
  refine Ev.neg (by omega) (Ev.step (fun k => slices_Concat_int_int.l0.eq_2 _ _ _ _ _ _) (Ev.pos (by omega) (Ev.pos (by omega) (Ev.pos (by omega) ?_))))
  show Ev (fun k => if wrap64 ((0 : Int) + (a.length : Int) + (b.length : Int)) < 0 then none else slices_Concat_int_int.l0 k [a, b] (wrap64 ((0 : Int) + (a.length : Int) + (b.length : Int))) [a, b] 2 (wrap64 ((1 : Int) + 1))) (a ++ b)
  rw [n2, w64 (x := (0 : Int) + (a.length : Int) + (b.length : Int)) (by omega) (by omega)]
  refine Ev.neg (by omega) (Ev.step (fun k => slices_Concat_int_int.l0.eq_2 _ _ _ _ _ _) (Ev.neg (by omega) (Ev.bnd0 (a := []) ?_ ?_)))
  · unfold slices_Grow_int_int.f
    rw [if_pos (show ([] : List Int).length = 0 from rfl), if_pos (by omega), if_pos (by omega)]
  rw [e2]
  refine Ev.step (fun k => slices_Concat_int_int.l1.eq_2 _ _ _ _ _) (Ev.pos (by omega) (Ev.pos (by omega) (Ev.pos (by omega) ?_)))
  show Ev (fun k => if ([] : List Int).length + a.length < 17592186044416 then slices_Concat_int_int.l1 k ([] ++ a) [a, b] 2 (wrap64 ((0 : Int) + 1)) else none) (a ++ b)
  rw [n1]
  refine Ev.pos (by simp; omega) (Ev.step (fun k => slices_Concat_int_int.l1.eq_2 _ _ _ _ _) (Ev.pos (by omega) (Ev.pos (by omega) (Ev.pos (by omega) ?_))))
  show Ev (fun k => if ([] ++ a : List Int).length + b.length < 17592186044416 then slices_Concat_int_int.l1 k ([] ++ a ++ b) [a, b] 2 (wrap64 ((1 : Int) + 1)) else none) (a ++ b)
  rw [n2]
  refine Ev.pos (by simp; omega) (Ev.step (fun k => slices_Concat_int_int.l1.eq_2 _ _ _ _ _) (Ev.neg (by omega) (Ev.now' (by simp))))
noncomputable def joinV (n : Int) (l : List Ar) (a b : List Int) : List Int × Bool := if walkB n l (a ++ b) = true then (a ++ b, true) else ([], false)
theorem iJoin_ev (n : Int) (l : List Ar) (a b : List Int) (hl : l.length ≤ 1000000000000) (ha : a.length ≤ 1000000000) (hb : b.length ≤ 1000000000) : Ev (fun k => impl_WalkJoin.f k n l a b) (joinV n l a b) := by
  unfold impl_WalkJoin.f joinV
  refine Ev.bnd (iConcat_ev a b ha hb) (Ev.bnd (iwok_ev n l (a ++ b) hl (by rw [List.length_append]; omega)) ?_)
  by_cases c : walkB n l (a ++ b) = true
  · refine Ev.pos c ?_
    rw [if_pos c]
    exact Ev.bnd0 (a := a ++ b) rfl (Ev.now _)
  · refine Ev.neg c ?_
    rw [if_neg c]
    exact Ev.now _
theorem sJoin_ev (n : Int) (l : List Ar) (a b : List Int) (hl : l.length ≤ 1000000000000) (ha : a.length ≤ 1000000000) (hb : b.length ≤ 1000000000) : Ev (fun k => spec_WalkJoin.f k n l a b) (joinV n l a b) := by
  unfold spec_WalkJoin.f
  refine Ev.bnd0 (a := []) rfl (Ev.pos (by simp; omega) (Ev.bnd0 (a := a) (by simp) (Ev.pos (by omega) (Ev.bnd0 (a := a ++ b) rfl ?_))))
  unfold joinV
  refine Ev.bnd (sok1_ev n l hl) ?_
  by_cases hn : netOkB n l = true
  · refine Ev.pos hn (Ev.bnd (swok_ev n l (a ++ b) hl (by rw [List.length_append]; omega)) ?_)
    by_cases h2 : wB l (a ++ b) = true
    · refine Ev.pos h2 ?_
      rw [if_pos (walkB_of (netP_of hn) (wB_iff.1 h2))]; exact Ev.now _
    · refine Ev.neg h2 ?_
      rw [if_neg (fun z => h2 (wB_iff.2 (walkP_of z).2))]; exact Ev.now _
  · refine Ev.neg hn ?_
    rw [if_neg (fun z => hn (ok_of (walkP_of z).1))]; exact Ev.now _
theorem joinV_len (n : Int) (l : List Ar) (a b : List Int) : (joinV n l a b).1.length ≤ 20 := by
  unfold joinV
  split
  · rename_i c; exact (walkP_of c).2.2
  · simp
end Go.Proofs.Ytpjmkghmjpbldaa.M
