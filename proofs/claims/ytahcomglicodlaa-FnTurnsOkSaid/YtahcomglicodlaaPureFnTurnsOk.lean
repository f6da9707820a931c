/- For every code: what FnTurnsOk asks holds. No condition beyond those that the statement has. -/
import Derived.Test.YtahcomglicodlaaPrintF10
import Derived.Test.YtahcomglicodlaaPrintF12
import Derived.Test.YtahcomglicodlaaPrintF3
import Derived.Test.YtahcomglicodlaaPrintF6
import Derived.Test.YtahcomglicodlaaY
import Derived.Test.YtahcomglicodlaaMTurns
import Derived.Test.YtahcomglicodlaaMDrawTurns
set_option linter.unusedVariables false
namespace Go.Proofs.Ytahcomglicodlaa.Pure
open Go.RowKit Go.Proofs.Ytahcomglicodlaa.Print Go.Proofs.YtahcomglicodlaaW.PrintWords Go.Proofs.YtahcomglicodlaaW.PrintLast Go.Proofs.YtahcomglicodlaaY Go.Proofs.Ytahcomglicodlaa.M
theorem turns_to {n : Int} {l : List Ar} {t : List Tu} (h : netOkB n l = true) (h1 : t.length ≤ 12) (h2 : ∀ x ∈ t, tIn l x) (h3 : t.Pairwise (fun x y => ¬ (x.f0 = y.f0 ∧ x.f1 = y.f1))) : turnsB n l t = true := by
  unfold turnsB
  rw [h, decide_eq_true h1, Bool.true_and, Bool.true_and]
  unfold tGo
  rw [List.all_eq_true]
  intro i hi
  rw [List.mem_range'] at hi
  obtain ⟨j, hj, rfl⟩ := hi
  rw [show 0 + 1 * j = j by omega]
  unfold tOne
  rw [getDT t j hj, decide_eq_true (h2 _ (List.getElem_mem _)), Bool.true_and]
  cases hc : (t.take j).any (to_eq t[j].f0 t[j].f1) with
  | false => rfl
  | true =>
    obtain ⟨y, hy, he⟩ := List.any_eq_true.1 hc
    obtain ⟨i, hi, rfl⟩ := List.mem_take_iff_getElem.1 hy
    rw [List.pairwise_iff_getElem] at h3
    unfold to_eq at he
    simp only [Bool.and_eq_true, beq_iff_eq] at he
    exact absurd he (h3 i j (by omega) hj (by omega))
theorem turns_without {n : Int} {l : List Ar} {t : List Tu} (h : turnsB n l t = true) (i : Nat) (hi : i < t.length) : turnsB n l (t.take i ++ t.drop (i + 1)) = true := by
  have hs : (t.take i ++ t.drop (i + 1)).Sublist t := by
    have e : t.take i ++ t.drop i = t := List.take_append_drop i t
    have h2 : (t.drop (i + 1)).Sublist (t.drop i) := by rw [dropT t i hi]; exact List.sublist_cons_self _ _
    have h3 := (List.Sublist.refl (t.take i)).append h2
    rwa [e] at h3
  exact turns_to (turns_net h) (Nat.le_trans hs.length_le (turns_few h)) (fun x hx => turns_in h x (hs.subset hx)) ((turns_once h).sublist hs)
theorem turns_twice {n : Int} {l : List Ar} {t : List Tu} (i : Nat) (hi : i < t.length) : turnsB n l (t ++ [t.getD i tuz]) = false := by
  cases h : turnsB n l (t ++ [t.getD i tuz]) with
  | false => rfl
  | true =>
    have p := (List.pairwise_append.1 (turns_once h)).2.2 t[i] (List.getElem_mem _) (t.getD i tuz) (by simp)
    rw [getDT t i hi] at p
    exact absurd ⟨rfl, rfl⟩ p
theorem sturns_ev (n : Int) (l : List Ar) (t : List Tu) (hl : l.length ≤ 1000000000) (ht : t.length ≤ 1000000000) : Ev (fun k => spec_TurnsOk.f k n l t) (turnsB n l t) := by
  unfold spec_TurnsOk.f turnsB
  refine Ev.bnd (sok1_ev n _ (by omega)) ?_
  by_cases h : netOkB n l = true
  · exact Ev.pos h (Ev.bnd (sl4_ev n _ _ hl ht) (Ev.now' (by rw [h, Bool.and_comm]; simp)))
  · exact Ev.neg h (Ev.now' (by rw [Bool.eq_false_iff.2 h]; rfl))
theorem FnTurnsOk : laws_FnTurnsOk.Pure := by
  intro l0 hm hm2 hb
  refine Ev.rounds (g := fun k => laws_FnTurnsOk.f k l0) ?_
  unfold laws_FnTurnsOk.f
  refine Ev.ite (fun _ => Ev.now _) (fun hl => ?_)
  obtain ⟨n, l, t, ed, hD, ht⟩ := drawTO_ev l0 hb
  have hlen := hD.len
  have e1 := iturns_ev n l t (by omega) (by omega)
  have e2 := sturns_ev n l t (by omega) (by omega)
  refine Ev.bnd (a := (n, l, t)) ed (Ev.bnd e1 (Ev.bnd e2 (Ev.neg (by simp) ?_)))
  cases hb1 : turnsB n l t with
  | false =>
    rw [hb1] at e2
    exact Ev.step (fun k => laws_FnTurnsOk.j0.eq_2 _ _ _ _ _ _) (Ev.pos rfl (Ev.bnd e2 (Ev.now _)))
  | true =>
    refine Ev.step (fun k => laws_FnTurnsOk.j0.eq_2 _ _ _ _ _ _) (Ev.neg (by simp) ?_)
    have nx : ∀ i : Nat, i ≤ 1000 → wrap64 ((i : Int) + 1) = ((i + 1 : Nat) : Int) := fun i h => by rw [w64 (by omega) (by omega)]; omega
    have loop : ∀ (d i : Nat), i ≤ t.length → t.length - i = d → Ev (fun k => laws_FnTurnsOk.l0 k t (i : Int) n l) true := by
      intro d
      induction d with
      | zero =>
        intro i hi hd
        refine Ev.step (fun k => laws_FnTurnsOk.l0.eq_2 _ _ _ _ _) (Ev.neg (by omega) (Ev.bnd (iturns_ev n l [] (by omega) (by simp)) ?_))
        rw [turnsB_nil (turns_net hb1)]
        exact Ev.now _
      | succ d ih =>
        intro i hi hd
        have hti := turns_in hb1 (t.getD i tuz) (by rw [getDT t i (by omega)]; exact List.getElem_mem _)
        obtain ⟨q1, q2, q3, q4, q5, _, _⟩ := hti
        have h1 := iturns_ev n l (t.take i ++ t.drop (i + 1)) (by omega) (by rw [List.length_append, List.length_take, List.length_drop]; omega)
        rw [turns_without hb1 i (by omega)] at h1
        have h2 := iturns_ev n l (t ++ [t.getD i tuz]) (by omega) (by rw [List.length_append]; simp; omega)
        rw [turns_twice i (by omega)] at h2
        have nl : ([] : List Tu).length = 0 := rfl
        refine Ev.step (fun k => laws_FnTurnsOk.l0.eq_2 _ _ _ _ _) (Ev.pos (by omega) (Ev.bnd0 (a := ([] : List Tu)) rfl (Ev.pos (by omega) (Ev.pos (by omega) ?_))))
        rw [nx i (by omega), Int.toNat_natCast, Int.toNat_natCast, rdT]
        refine Ev.bnd0 (a := t.take i) rfl (Ev.pos (by rw [nl, List.length_take]; omega) (Ev.bnd0 (a := t.take i) rfl (Ev.pos (by omega) (Ev.pos (by omega) (Ev.bnd0 (a := t.drop (i + 1)) rfl (Ev.pos (by rw [List.length_take, List.length_drop]; omega) (Ev.bnd h1 (Ev.pos rfl ?_))))))))
        refine Ev.bnd0 (a := ([] : List Tu)) rfl (Ev.pos (show ([] : List Tu).length + t.length < 5864062014805 by rw [nl]; omega) (Ev.bnd0 (a := t) rfl (Ev.bnd0 (a := [t.getD i tuz]) rfl (Ev.pos (show t.length + [t.getD i tuz].length < 5864062014805 by simp; omega) ?_))))
        refine Ev.bnd h2 (Ev.neg (by simp) (Ev.pos q1 (Ev.pos q2 (Ev.pos q3 (Ev.pos q4 (Ev.pos q5 (ih (i + 1) (by omega) (by omega))))))))
    exact loop t.length 0 (by omega) rfl
end Go.Proofs.Ytahcomglicodlaa.Pure
