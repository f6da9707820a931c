/- Rows of arcs: copied, compared. -/
import Derived.Test.YtppjelkljihdoaaDoorY
import Derived.Test.YtppjelkljihdoaaDoorMNet
import Derived.Test.YtppjelkljihdoaaDoorPrint0
import Derived.Test.YtppjelkljihdoaaDoorPrintB
import Derived.Test.YtppjelkljihdoaaDoorPrintF16
import Derived.Test.YtppjelkljihdoaaDoorPrintF20
import Derived.Test.YtppjelkljihdoaaDoorPrintF43
import Derived.Test.YtppjelkljihdoaaDoorPrintF47
import Derived.Test.YtppjelkljihdoaaDoorPrintF61
set_option linter.unusedVariables false
set_option linter.unusedSimpArgs false
namespace Go.Proofs.YtppjelkljihdoaaDoor.M
open Go.RowKit Go.Proofs.YtppjelkljihdoaaDoor.Print Go.Proofs.YtppjelkljihdoaaDoorW.PrintWords Go.Proofs.YtppjelkljihdoaaDoorW.PrintLast Go.Proofs.YtppjelkljihdoaaDoorY
abbrev LAr := S88
def convA (x : LAr) : Ar := ⟨x.f0, x.f1, x.f2, x.f3, x.f4⟩
theorem rdLA (l : List LAr) (i : Nat) (h : i < l.length) : rd_T88 l (i : Int) = l[i] := by
  unfold rd_T88; rw [Int.toNat_natCast, List.getD_eq_getElem?_getD, List.getElem?_eq_getElem h]; rfl
theorem toA_loop (l : List LAr) (hl : l.length ≤ 1000000000000) (d : Nat) : ∀ i : Nat, i ≤ l.length → l.length - i = d →
    Ev (fun k => laws_toArcS.l0 k l ((l.take i).map convA ++ List.replicate (l.length - i) arz) (i : Int)) (l.map convA) := by
  induction d with
  | zero =>
    intro i hi hd
    refine Ev.step (fun k => laws_toArcS.l0.eq_2 _ _ _ _) (Ev.neg (by omega) (Ev.now' ?_))
    rw [hd, List.take_of_length_le (by omega)]; simp
  | succ d ih =>
    intro i hi hd
    have hlen : ((l.take i).map convA ++ List.replicate (l.length - i) arz).length = l.length := by simp; omega
    refine Ev.step (fun k => laws_toArcS.l0.eq_2 _ _ _ _) (Ev.pos (by omega) (Ev.pos (by omega) (Ev.bnd0 (laws_toArc.f.eq_1 _ _ _ _ _) ?_)))
    rw [nxt i (by omega), rdLA l i (by omega), Int.toNat_natCast]
    refine Ev.pos (by rw [hlen]; omega) ?_
    have h := ih (i + 1) (by omega) (by omega)
    have e : ((l.take i).map convA ++ List.replicate (l.length - i) arz).set i ⟨l[i].f0, l[i].f1, l[i].f2, l[i].f3, l[i].f4⟩ = (l.take (i + 1)).map convA ++ List.replicate (l.length - (i + 1)) arz := by
      have h1 : ((l.take i).map convA).length = i := by simp; omega
      rw [List.set_append_right _ _ (by omega), h1, Nat.sub_self, show l.length - i = (l.length - (i + 1)) + 1 by omega, List.replicate_succ, List.set_cons_zero, List.take_succ_eq_append_getElem (by omega), List.map_append]
      simp [convA]
    rw [e]
    exact h
theorem toA_ev (l : List LAr) (hl : l.length ≤ 1000000000) : Ev (fun k => laws_toArcS.f k l) (l.map convA) := by
  unfold laws_toArcS.f
  refine Ev.pos (by omega) (Ev.pos (by omega) ?_)
  have h := toA_loop l (by omega) l.length 0 (by omega) (by omega)
  rw [show ((0 : Nat) : Int) = 0 from rfl] at h
  rw [Int.toNat_natCast]
  exact h
theorem toNet_ev (n : Int) (l : List LAr) (hl : l.length ≤ 1000000000) : Ev (fun k => laws_toNet.f k n l) (n, l.map convA) := by
  unfold laws_toNet.f
  exact Ev.bnd (toA_ev l hl) (Ev.now _)
theorem szN_eq (n : Int) (l : List LAr) (hm : l.length ≤ maxLen) : ∃ r, laws_szNet.f n l 1048576 = some r ∧ r ≤ 1048576 ∧ (r < 0 ∨ l.length ≤ 1048576) := by
  unfold maxLen at hm
  unfold laws_szNet.f laws_szArcS.f
  rw [w64 (x := 1048576 - (l.length : Int)) (by omega) (by omega)]
  by_cases h : 1048576 - (l.length : Int) < 0
  · rw [if_pos h, Option.bind_some, if_pos (by omega)]; exact ⟨_, rfl, by omega, .inl (by omega)⟩
  · rw [if_neg h, Option.bind_some, if_neg h]; exact ⟨_, rfl, by omega, .inr (by omega)⟩
theorem eqA_loop (l : List Ar) (hl : l.length ≤ 1000000000000) (d : Nat) : ∀ i : Nat, i ≤ l.length → l.length - i = d → Ev (fun k => laws_eqArcS.l0 k l l (i : Int)) true := by
  induction d with
  | zero => intro i hi hd; exact Ev.step (fun k => laws_eqArcS.l0.eq_2 _ _ _ _) (Ev.neg (by omega) (Ev.now _))
  | succ d ih =>
    intro i hi hd
    refine Ev.step (fun k => laws_eqArcS.l0.eq_2 _ _ _ _) (Ev.pos (by omega) (Ev.pos (by omega) (Ev.pos (by omega) (Ev.bnd0 (a := true) ?_ (Ev.pos rfl ?_)))))
    · unfold laws_eqArc.f; rw [if_pos rfl, if_pos rfl, if_pos rfl, if_pos rfl, if_pos rfl]
    · rw [nxt i (by omega)]; exact ih (i + 1) (by omega) (by omega)
theorem eqNet_ev (n : Int) (l : List Ar) (hl : l.length ≤ 1000000000000) : Ev (fun k => laws_eqNet.f k n l n l) true := by
  unfold laws_eqNet.f laws_eqArcS.f
  exact Ev.pos rfl (Ev.bnd (Ev.pos rfl (eqA_loop l hl l.length 0 (by omega) (by omega))) (Ev.pos rfl (Ev.now _)))
end Go.Proofs.YtppjelkljihdoaaDoor.M
