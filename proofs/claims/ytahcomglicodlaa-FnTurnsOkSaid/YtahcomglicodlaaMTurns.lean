/- Rows of turns: copied, compared. -/
import Derived.Test.YtahcomglicodlaaY
import Derived.Test.YtahcomglicodlaaMNet
import Derived.Test.YtahcomglicodlaaPrint0
import Derived.Test.YtahcomglicodlaaPrintB
import Derived.Test.YtahcomglicodlaaPrintF10
import Derived.Test.YtahcomglicodlaaPrintF12
import Derived.Test.YtahcomglicodlaaPrintF15
import Derived.Test.YtahcomglicodlaaPrintF5
set_option linter.unusedVariables false
set_option linter.unusedSimpArgs false
namespace Go.Proofs.Ytahcomglicodlaa.M
open Go.RowKit Go.Proofs.Ytahcomglicodlaa.Print Go.Proofs.YtahcomglicodlaaW.PrintWords Go.Proofs.YtahcomglicodlaaW.PrintLast Go.Proofs.YtahcomglicodlaaY
abbrev Tu := S31
abbrev tuz : Tu := z31
theorem rdT (l : List Tu) (i : Nat) : rd_T31 l (i : Int) = l.getD i tuz := by unfold rd_T31; rw [Int.toNat_natCast]
theorem getDT (l : List Tu) (i : Nat) (h : i < l.length) : l.getD i tuz = l[i] := by rw [List.getD_eq_getElem?_getD, List.getElem?_eq_getElem h]; rfl
theorem dropT (l : List Tu) (i : Nat) (h : i < l.length) : l.drop i = l.getD i tuz :: l.drop (i + 1) := by rw [List.drop_eq_getElem_cons h, getDT l i h]
theorem takeT (l : List Tu) (i : Nat) (h : i < l.length) : l.take (i + 1) = l.take i ++ [l.getD i tuz] := by rw [List.take_add_one, List.getElem?_eq_getElem h, getDT l i h]; rfl
/-! ### Are the turns ok? -/
/-- What is asked of a turn alone, in a net with these arcs. -/
def tIn (l : List Ar) (x : Tu) : Prop := 0 ≤ x.f0 ∧ x.f0 < (l.length : Int) ∧ 0 ≤ x.f1 ∧ x.f1 < (l.length : Int) ∧ (l.getD x.f0.toNat arz).f1 = (l.getD x.f1.toNat arz).f0 ∧ -1 ≤ x.f2 ∧ x.f2 ≤ 99
instance (l : List Ar) (x : Tu) : Decidable (tIn l x) := by unfold tIn; infer_instance
def tOne (l : List Ar) (t : List Tu) (i : Nat) : Bool := decide (tIn l (t.getD i tuz)) && !((t.take i).any (to_eq (t.getD i tuz).f0 (t.getD i tuz).f1))
def tGo (l : List Ar) (t : List Tu) (i d : Nat) : Bool := (List.range' i d).all (tOne l t)
theorem tGo_succ (l : List Ar) (t : List Tu) (i d : Nat) : tGo l t i (d + 1) = (tOne l t i && tGo l t (i + 1) d) := by simp [tGo, List.range'_succ]
theorem tGo_at {l : List Ar} {t : List Tu} (h : tGo l t 0 t.length = true) (i : Nat) (hi : i < t.length) : tOne l t i = true := by
  unfold tGo at h
  exact List.all_eq_true.1 h i (by rw [List.mem_range']; exact ⟨i, hi, by omega⟩)
def turnsB (n : Int) (l : List Ar) (t : List Tu) : Bool := netOkB n l && (decide (t.length ≤ 12) && tGo l t 0 t.length)
/-- Turns that are ok: each for itself, and none twice. -/
theorem turns_in {n : Int} {l : List Ar} {t : List Tu} (h : turnsB n l t = true) : ∀ x ∈ t, tIn l x := by
  unfold turnsB at h
  obtain ⟨_, h⟩ := Bool.and_eq_true_iff.1 h
  obtain ⟨_, h⟩ := Bool.and_eq_true_iff.1 h
  intro x hx
  obtain ⟨i, hi, rfl⟩ := List.getElem_of_mem hx
  have := tGo_at h i hi
  unfold tOne at this
  rw [getDT t i hi] at this
  exact of_decide_eq_true (Bool.and_eq_true_iff.1 this).1
theorem turns_few {n : Int} {l : List Ar} {t : List Tu} (h : turnsB n l t = true) : t.length ≤ 12 := by
  unfold turnsB at h
  obtain ⟨_, h⟩ := Bool.and_eq_true_iff.1 h
  exact of_decide_eq_true (Bool.and_eq_true_iff.1 h).1
theorem turns_net {n : Int} {l : List Ar} {t : List Tu} (h : turnsB n l t = true) : netOkB n l = true := by
  unfold turnsB at h
  exact (Bool.and_eq_true_iff.1 h).1
theorem turns_once {n : Int} {l : List Ar} {t : List Tu} (h : turnsB n l t = true) : t.Pairwise (fun x y => ¬ (x.f0 = y.f0 ∧ x.f1 = y.f1)) := by
  unfold turnsB at h
  obtain ⟨_, h⟩ := Bool.and_eq_true_iff.1 h
  obtain ⟨_, h⟩ := Bool.and_eq_true_iff.1 h
  rw [List.pairwise_iff_getElem]
  intro i j hi hj hij he
  have := tGo_at h j hj
  unfold tOne at this
  rw [getDT t j hj] at this
  have h2 := (Bool.and_eq_true_iff.1 this).2
  have h3 : (t.take j).any (to_eq t[j].f0 t[j].f1) = true := List.any_eq_true.2 ⟨t[i], by rw [List.mem_take_iff_getElem]; exact ⟨i, by omega, rfl⟩, by unfold to_eq; rw [he.1, he.2]; simp⟩
  rw [h3] at h2
  exact absurd h2 (by simp)
theorem turnsB_nil {n : Int} {l : List Ar} (h : netOkB n l = true) : turnsB n l [] = true := by unfold turnsB; rw [h]; rfl
theorem iw (a b c : Int) : impl_within.f a b c = some (decide (b ≤ a ∧ a ≤ c)) := by
  unfold impl_within.f
  by_cases h : b ≤ a
  · rw [if_pos h]; simp [h]
  · rw [if_neg h]; simp [h]
theorem lenm (l : List Ar) (h : l.length ≤ 1000000000000) : wrap64 ((l.length : Int) - 1) = (l.length : Int) - 1 := w64 (by omega) (by omega)
theorem rdAi (l : List Ar) (x : Int) : rd_T33 l x = l.getD x.toNat arz := rfl
theorem iturns_loop (n : Int) (l : List Ar) (t : List Tu) (hl : l.length ≤ 1000000000) (ht : t.length ≤ 1000000000) (d : Nat) : ∀ i : Nat, i ≤ t.length → t.length - i = d →
    Ev (fun k => impl_TurnsOk.l0 k t t (t.length : Int) (i : Int) n l) (tGo l t i d) := by
  induction d with
  | zero => intro i hi hd; exact Ev.step (fun k => impl_TurnsOk.l0.eq_2 _ _ _ _ _ _ _) (Ev.neg (by omega) (Ev.now' rfl))
  | succ d ih =>
    intro i hi hd
    refine Ev.step (fun k => impl_TurnsOk.l0.eq_2 _ _ _ _ _ _ _) (Ev.pos (by omega) (Ev.pos (by omega) (Ev.pos (by omega) ?_)))
    rw [rdT, tGo_succ, lenm l (by omega)]
    generalize hx : t.getD i tuz = x
    have stop : ¬ tIn l x → ∀ a b c, Ev (fun k => impl_TurnsOk.j2 k t (i : Int) t (t.length : Int) (i : Int) true n l a b c) (tOne l t i && tGo l t (i + 1) d) := fun h a b c =>
      Ev.step (fun k => impl_TurnsOk.j2.eq_2 _ _ _ _ _ _ _ _ _ _ _ _) (Ev.pos rfl (Ev.now' (by unfold tOne; rw [hx, decide_eq_false h]; rfl)))
    refine Ev.bnd0 (iw _ _ _) ?_
    by_cases c0 : 0 ≤ x.f0 ∧ x.f0 ≤ (l.length : Int) - 1
    · refine Ev.pos (by simpa using c0) (Ev.bnd0 (iw _ _ _) ?_)
      by_cases c1 : 0 ≤ x.f1 ∧ x.f1 ≤ (l.length : Int) - 1
      · refine Ev.pos (by simpa using c1) (Ev.pos c0.1 (Ev.pos (by omega) (Ev.pos c1.1 (Ev.pos (by omega) ?_))))
        rw [rdAi, rdAi]
        by_cases c2 : (l.getD x.f0.toNat arz).f1 = (l.getD x.f1.toNat arz).f0
        · refine Ev.pos c2 (Ev.bnd0 (iw _ _ _) ?_)
          by_cases c3 : -1 ≤ x.f2 ∧ x.f2 ≤ 99
          · have hin : tIn l x := ⟨c0.1, by omega, c1.1, by omega, c2, c3.1, c3.2⟩
            rw [decide_eq_true c3]
            refine Ev.step (fun k => impl_TurnsOk.j2.eq_2 _ _ _ _ _ _ _ _ _ _ _ _) (Ev.neg (by simp) (Ev.pos (by omega) (Ev.pos (by omega) (Ev.bnd0 (a := (t.take i).any (to_eq x.f0 x.f1)) (by unfold impl_Turn_12.f; rw [Int.toNat_natCast]) ?_))))
            by_cases c4 : (t.take i).any (to_eq x.f0 x.f1) = true
            · exact Ev.pos c4 (Ev.now' (by unfold tOne; rw [hx, c4]; simp))
            · refine Ev.neg c4 ?_
              have e : tOne l t i = true := by unfold tOne; rw [hx, decide_eq_true hin, Bool.eq_false_iff.2 c4]; rfl
              rw [e, Bool.true_and, nxt i (by omega)]
              exact ih (i + 1) (by omega) (by omega)
          · rw [decide_eq_false c3]
            exact stop (fun h => c3 ⟨h.2.2.2.2.2.1, h.2.2.2.2.2.2⟩) _ _ _
        · exact Ev.neg c2 (stop (fun h => c2 h.2.2.2.2.1) _ _ _)
      · exact Ev.neg (by simpa using c1) (stop (fun h => c1 ⟨h.2.2.1, by have := h.2.2.2.1; omega⟩) _ _ _)
    · exact Ev.neg (by simpa using c0) (stop (fun h => c0 ⟨h.1, by have := h.2.1; omega⟩) _ _ _)
theorem iturns_ev (n : Int) (l : List Ar) (t : List Tu) (hl : l.length ≤ 1000000000) (ht : t.length ≤ 1000000000) : Ev (fun k => impl_TurnsOk.f k n l t) (turnsB n l t) := by
  unfold impl_TurnsOk.f turnsB
  refine Ev.bnd0 (a := netOkB n l) rfl ?_
  by_cases h : netOkB n l = true
  · refine Ev.pos h ?_
    rw [h, Bool.true_and]
    by_cases h2 : t.length ≤ 12
    · rw [decide_eq_true h2, Bool.true_and]
      exact Ev.step (fun k => impl_TurnsOk.j0.eq_2 _ _ _ _ _) (Ev.neg (by simp; omega) (iturns_loop n l t hl ht t.length 0 (by omega) (by omega)))
    · rw [decide_eq_false h2, Bool.false_and]
      exact Ev.step (fun k => impl_TurnsOk.j0.eq_2 _ _ _ _ _) (Ev.pos (by simp; omega) (Ev.now _))
  · refine Ev.neg h ?_
    rw [Bool.eq_false_iff.2 h, Bool.false_and]
    exact Ev.step (fun k => impl_TurnsOk.j0.eq_2 _ _ _ _ _) (Ev.pos rfl (Ev.now _))
/-- The reference looks at the turns ahead one by one. -/
theorem sturns_in (n : Int) (l : List Ar) (t : List Tu) (ht : t.length ≤ 1000000000) (i : Nat) (hi : i < t.length) (r : Bool) (hr : Ev (fun k => spec_l4Ok.l0 k t (wrap64 ((i : Int) + 1)) n l) r) (d : Nat) : ∀ j : Nat, j ≤ i → i - j = d →
    Ev (fun k => spec_l4Ok.l1 k t (i : Int) (j : Int) n l) (!(((t.take i).drop j).any (to_eq (t.getD i tuz).f0 (t.getD i tuz).f1)) && r) := by
  induction d with
  | zero =>
    intro j hj hd
    refine Ev.step (fun k => spec_l4Ok.l1.eq_2 _ _ _ _ _ _) (Ev.neg (by omega) ?_)
    rw [List.drop_eq_nil_of_le (by rw [List.length_take]; omega)]
    exact hr
  | succ d ih =>
    intro j hj hd
    refine Ev.step (fun k => spec_l4Ok.l1.eq_2 _ _ _ _ _ _) (Ev.pos (by omega) (Ev.pos (by omega) (Ev.pos (by omega) (Ev.pos (by omega) (Ev.pos (by omega) ?_)))))
    have e : (t.take i).getD j tuz = t.getD j tuz := by
      rw [getDT _ _ (by rw [List.length_take]; omega), getDT _ _ (by omega), List.getElem_take]
    rw [rdT, rdT, nxt j (by omega), dropT (t.take i) j (by rw [List.length_take]; omega), List.any_cons, e]
    have go := ih (j + 1) (by omega) (by omega)
    by_cases c0 : (t.getD j tuz).f0 = (t.getD i tuz).f0
    · refine Ev.pos c0 ?_
      by_cases c1 : (t.getD j tuz).f1 = (t.getD i tuz).f1
      · have e2 : to_eq (t.getD i tuz).f0 (t.getD i tuz).f1 (t.getD j tuz) = true := by unfold to_eq; rw [c0, c1]; simp
        exact Ev.pos c1 (Ev.now' (by rw [e2]; rfl))
      · have e2 : to_eq (t.getD i tuz).f0 (t.getD i tuz).f1 (t.getD j tuz) = false := by unfold to_eq; rw [(beq_eq_false_iff_ne).2 c1]; simp
        rw [e2, Bool.false_or]
        exact Ev.neg c1 go
    · have e2 : to_eq (t.getD i tuz).f0 (t.getD i tuz).f1 (t.getD j tuz) = false := by unfold to_eq; rw [(beq_eq_false_iff_ne).2 c0]; simp
      rw [e2, Bool.false_or]
      exact Ev.neg c0 go
theorem sturns_loop (n : Int) (l : List Ar) (t : List Tu) (hl : l.length ≤ 1000000000) (ht : t.length ≤ 1000000000) (d : Nat) : ∀ i : Nat, i ≤ t.length → t.length - i = d →
    Ev (fun k => spec_l4Ok.l0 k t (i : Int) n l) (tGo l t i d && decide (t.length ≤ 12)) := by
  induction d with
  | zero => intro i hi hd; exact Ev.step (fun k => spec_l4Ok.l0.eq_2 _ _ _ _ _) (Ev.neg (by omega) (Ev.now' (by simp [tGo]; omega)))
  | succ d ih =>
    intro i hi hd
    refine Ev.step (fun k => spec_l4Ok.l0.eq_2 _ _ _ _ _) (Ev.pos (by omega) (Ev.pos (by omega) ?_))
    rw [rdT, tGo_succ, lenm l (by omega)]
    generalize hx : t.getD i tuz = x
    have stop : ¬ tIn l x → Ev (fun k => spec_l4Ok.j1 k t (i : Int) true n l) (tOne l t i && tGo l t (i + 1) d && decide (t.length ≤ 12)) := fun h =>
      Ev.step (fun k => spec_l4Ok.j1.eq_2 _ _ _ _ _ _) (Ev.pos rfl (Ev.now' (by unfold tOne; rw [hx, decide_eq_false h]; rfl)))
    refine Ev.bnd0 (nIn _ _ _) ?_
    by_cases c0 : 0 ≤ x.f0 ∧ x.f0 ≤ (l.length : Int) - 1
    · refine Ev.pos (by simpa using c0) (Ev.bnd0 (nIn _ _ _) ?_)
      by_cases c1 : 0 ≤ x.f1 ∧ x.f1 ≤ (l.length : Int) - 1
      · refine Ev.pos (by simpa using c1) (Ev.pos c0.1 (Ev.pos (by omega) (Ev.pos c1.1 (Ev.pos (by omega) ?_))))
        rw [rdAi, rdAi]
        by_cases c2 : (l.getD x.f0.toNat arz).f1 = (l.getD x.f1.toNat arz).f0
        · refine Ev.pos c2 (Ev.bnd0 (nIn _ _ _) ?_)
          by_cases c3 : -1 ≤ x.f2 ∧ x.f2 ≤ 99
          · have hin : tIn l x := ⟨c0.1, by omega, c1.1, by omega, c2, c3.1, c3.2⟩
            rw [decide_eq_true c3]
            refine Ev.step (fun k => spec_l4Ok.j1.eq_2 _ _ _ _ _ _) (Ev.neg (by simp) ?_)
            have h := sturns_in n l t ht i (by omega) _ (by rw [nxt i (by omega)]; exact ih (i + 1) (by omega) (by omega)) i 0 (by omega) (by omega)
            rw [List.drop_zero, hx] at h
            have e : tOne l t i = !((t.take i).any (to_eq x.f0 x.f1)) := by unfold tOne; rw [hx, decide_eq_true hin]; rfl
            rw [e, Bool.and_assoc]
            exact h
          · rw [decide_eq_false c3]
            exact stop (fun h => c3 ⟨h.2.2.2.2.2.1, h.2.2.2.2.2.2⟩)
        · exact Ev.neg c2 (stop (fun h => c2 h.2.2.2.2.1))
      · exact Ev.neg (by simpa using c1) (stop (fun h => c1 ⟨h.2.2.1, by have := h.2.2.2.1; omega⟩))
    · exact Ev.neg (by simpa using c0) (stop (fun h => c0 ⟨h.1, by have := h.2.1; omega⟩))
theorem sl4_ev (n : Int) (l : List Ar) (t : List Tu) (hl : l.length ≤ 1000000000) (ht : t.length ≤ 1000000000) : Ev (fun k => spec_l4Ok.f k n l t) (tGo l t 0 t.length && decide (t.length ≤ 12)) :=
  sturns_loop n l t hl ht t.length 0 (by omega) (by omega)
end Go.Proofs.Ytahcomglicodlaa.M
