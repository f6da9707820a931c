/- Nets: what NetOk, the reference's l1Ok, the copies and the comparisons come to. -/
import Derived.Test.YtppjelkljihdoaaDoorY
import Derived.Test.YtppjelkljihdoaaDoorPrint0
import Derived.Test.YtppjelkljihdoaaDoorPrintB
import Derived.Test.YtppjelkljihdoaaDoorPrintF10
import Derived.Test.YtppjelkljihdoaaDoorPrintF27
set_option linter.unusedVariables false
set_option linter.unusedSimpArgs false
namespace Go.Proofs.YtppjelkljihdoaaDoor.M
open Go.RowKit Go.Proofs.YtppjelkljihdoaaDoor.Print Go.Proofs.YtppjelkljihdoaaDoorW.PrintWords Go.Proofs.YtppjelkljihdoaaDoorW.PrintLast Go.Proofs.YtppjelkljihdoaaDoorY
abbrev Ar := S54
abbrev arz : Ar := z54
theorem rdA (l : List Ar) (i : Nat) : rd_T54 l (i : Int) = l.getD i arz := by unfold rd_T54; rw [Int.toNat_natCast]
theorem rdI (l : List Int) (i : Nat) : Go.Proofs.YtppjelkljihdoaaDoorW.PrintWords.rd l (i : Int) = l.getD i 0 := by unfold Go.Proofs.YtppjelkljihdoaaDoorW.PrintWords.rd; rw [Int.toNat_natCast]
theorem getDA (l : List Ar) (i : Nat) (h : i < l.length) : l.getD i arz = l[i] := by rw [List.getD_eq_getElem?_getD, List.getElem?_eq_getElem h]; rfl
theorem getDI (l : List Int) (i : Nat) (h : i < l.length) : l.getD i 0 = l[i] := by rw [List.getD_eq_getElem?_getD, List.getElem?_eq_getElem h]; rfl
theorem dropA (l : List Ar) (i : Nat) (h : i < l.length) : l.drop i = l.getD i arz :: l.drop (i + 1) := by rw [List.drop_eq_getElem_cons h, getDA l i h]
theorem dropI (l : List Int) (i : Nat) (h : i < l.length) : l.drop i = l.getD i 0 :: l.drop (i + 1) := by rw [List.drop_eq_getElem_cons h, getDI l i h]
theorem nIn (a b c : Int) : spec_l1In.f a b c = some (decide (b ≤ a ∧ a ≤ c)) := by
  unfold spec_l1In.f
  by_cases h : b ≤ a
  · rw [if_pos h]; simp [h]
  · rw [if_neg h]; simp [h]
theorem nxt (i : Nat) (h : i ≤ 1000000000000) : wrap64 ((i : Int) + 1) = ((i + 1 : Nat) : Int) := by rw [w64 (by omega) (by omega)]; omega
theorem sok1_loop (n : Int) (l : List Ar) (hl : l.length ≤ 1000000000000) (d : Nat) : ∀ i : Nat, i ≤ l.length → l.length - i = d →
    Ev (fun k => spec_l1Ok.l0 k (i : Int) n l) (!((l.drop i).any (n_bad n)) && (decide (1 ≤ n ∧ n ≤ 8) && decide ((l.length : Int) ≤ 16))) := by
  induction d with
  | zero =>
    intro i hi hd
    refine Ev.step (fun k => spec_l1Ok.l0.eq_2 _ _ _ _) (Ev.neg (by omega) (Ev.bnd0 (nIn _ _ _) ?_))
    rw [List.drop_eq_nil_of_le (by omega)]
    by_cases h : 1 ≤ n ∧ n ≤ 8
    · exact Ev.pos (by simpa using h) (Ev.now' (by simp [h]))
    · exact Ev.neg (by simpa using h) (Ev.now' (by simp [h]))
  | succ d ih =>
    intro i hi hd
    refine Ev.step (fun k => spec_l1Ok.l0.eq_2 _ _ _ _) (Ev.pos (by omega) (Ev.pos (by omega) ?_))
    rw [rdA, nxt i (by omega), dropA l i (by omega), List.any_cons]
    generalize l.getD i arz = x
    have bad : n_bad n x = true → (!(n_bad n x || (l.drop (i + 1)).any (n_bad n)) && (decide (1 ≤ n ∧ n ≤ 8) && decide ((l.length : Int) ≤ 16))) = false := fun h => by rw [h]; rfl
    refine Ev.bnd0 (nIn _ _ _) ?_
    by_cases c0 : 0 ≤ x.f0 ∧ x.f0 ≤ wrap64 (n - 1)
    · refine Ev.pos (by simpa using c0) (Ev.bnd0 (nIn _ _ _) ?_)
      by_cases c1 : 0 ≤ x.f1 ∧ x.f1 ≤ wrap64 (n - 1)
      · refine Ev.pos (by simpa using c1) ?_
        by_cases c2 : x.f0 = x.f1
        · exact Ev.pos c2 (Ev.now' (bad (by simp [n_bad, c2])).symm)
        · refine Ev.neg c2 (Ev.bnd0 (nIn _ _ _) ?_)
          by_cases c3 : 0 ≤ x.f2 ∧ x.f2 ≤ 99
          · refine Ev.pos (by simpa using c3) (Ev.bnd0 (nIn _ _ _) ?_)
            by_cases c4 : 0 ≤ x.f3 ∧ x.f3 ≤ 99
            · refine Ev.pos (by simpa using c4) (Ev.bnd0 (nIn _ _ _) ?_)
              by_cases c5 : 0 ≤ x.f4 ∧ x.f4 ≤ 9
              · refine Ev.pos (by simpa using c5) ?_
                have good : n_bad n x = false := by simp [n_bad, n_no, c0, c1, c2, c3, c4, c5]
                rw [good, Bool.false_or]
                exact ih (i + 1) (by omega) (by omega)
              · exact Ev.neg (by simpa using c5) (Ev.now' (bad (by simp only [n_bad, decide_eq_false c5]; simp)).symm)
            · exact Ev.neg (by simpa using c4) (Ev.now' (bad (by simp only [n_bad, decide_eq_false c4]; simp)).symm)
          · exact Ev.neg (by simpa using c3) (Ev.now' (bad (by simp only [n_bad, decide_eq_false c3]; simp)).symm)
      · exact Ev.neg (by simpa using c1) (Ev.now' (bad (by simp only [n_bad, n_no, List.any_cons, decide_eq_false c1]; simp)).symm)
    · exact Ev.neg (by simpa using c0) (Ev.now' (bad (by simp only [n_bad, n_no, List.any_cons, decide_eq_false c0]; simp)).symm)
theorem sok1_ev (n : Int) (l : List Ar) (hl : l.length ≤ 1000000000000) : Ev (fun k => spec_l1Ok.f k n l) (netOkB n l) := by
  have h := sok1_loop n l hl l.length 0 (by omega) (by omega)
  rw [show ((0 : Nat) : Int) = 0 from rfl, List.drop_zero] at h
  refine Ev.to h ?_
  unfold netOkB
  cases l.any (n_bad n) <;> cases decide (1 ≤ n ∧ n ≤ 8) <;> cases decide ((l.length : Int) ≤ 16) <;> rfl
/-- What is said of a net that is ok. -/
structure NetP (n : Int) (l : List Ar) : Prop where
  lo : 1 ≤ n
  hi : n ≤ 8
  few : l.length ≤ 16
  arc : ∀ x ∈ l, 0 ≤ x.f0 ∧ x.f0 < n ∧ 0 ≤ x.f1 ∧ x.f1 < n ∧ x.f0 ≠ x.f1 ∧ 0 ≤ x.f2 ∧ x.f2 ≤ 99 ∧ 0 ≤ x.f3 ∧ x.f3 ≤ 99 ∧ 0 ≤ x.f4 ∧ x.f4 ≤ 9
theorem good_iff {n : Int} (h1 : 1 ≤ n) (h2 : n ≤ 8) (x : Ar) : n_bad n x = false ↔ 0 ≤ x.f0 ∧ x.f0 < n ∧ 0 ≤ x.f1 ∧ x.f1 < n ∧ x.f0 ≠ x.f1 ∧ 0 ≤ x.f2 ∧ x.f2 ≤ 99 ∧ 0 ≤ x.f3 ∧ x.f3 ≤ 99 ∧ 0 ≤ x.f4 ∧ x.f4 ≤ 9 := by
  unfold n_bad n_no
  rw [w64 (x := n - 1) (by omega) (by omega)]
  simp only [List.any_cons, List.any_nil, Bool.or_false, Bool.or_eq_false_iff, Bool.not_eq_false', decide_eq_true_eq, beq_eq_false_iff_ne]
  omega
theorem netP_of {n : Int} {l : List Ar} (h : netOkB n l = true) : NetP n l := by
  unfold netOkB at h
  simp only [Bool.and_eq_true, decide_eq_true_eq, Bool.not_eq_true', List.any_eq_false] at h
  obtain ⟨⟨h1, h2⟩, h3, h4⟩ := h
  exact ⟨h1, h2, by omega, fun x hx => (good_iff h1 h2 x).1 (by have := h4 x hx; simpa using this)⟩
theorem ok_of {n : Int} {l : List Ar} (h : NetP n l) : netOkB n l = true := by
  unfold netOkB
  simp only [Bool.and_eq_true, decide_eq_true_eq, Bool.not_eq_true', List.any_eq_false]
  exact ⟨⟨h.lo, h.hi⟩, by have := h.few; omega, fun x hx => by simpa using (good_iff h.lo h.hi x).2 (h.arc x hx)⟩
theorem netP_iff {n : Int} {l : List Ar} : netOkB n l = true ↔ NetP n l := ⟨netP_of, ok_of⟩
end Go.Proofs.YtppjelkljihdoaaDoor.M
