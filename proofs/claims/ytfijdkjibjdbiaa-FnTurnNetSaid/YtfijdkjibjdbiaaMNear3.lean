/- What is nearest: what the program's rounds and the reference's come to. -/
import Derived.Test.YtfijdkjibjdbiaaMNear2
import Derived.Test.YtfijdkjibjdbiaaMTurn
import Derived.Test.YtfijdkjibjdbiaaPrint0
import Derived.Test.YtfijdkjibjdbiaaPrintB
import Derived.Test.YtfijdkjibjdbiaaPrintF10
import Derived.Test.YtfijdkjibjdbiaaPrintF25
import Derived.Test.YtfijdkjibjdbiaaPrintF26
import Derived.Test.YtfijdkjibjdbiaaPrintF39
import Derived.Test.YtfijdkjibjdbiaaPrintF9
set_option linter.unusedVariables false
set_option linter.unusedSimpArgs false
namespace Go.Proofs.Ytfijdkjibjdbiaa.M
open Go.RowKit Go.Proofs.Ytfijdkjibjdbiaa.Print Go.Proofs.YtfijdkjibjdbiaaW.PrintWords Go.Proofs.YtfijdkjibjdbiaaW.PrintLast Go.Proofs.YtfijdkjibjdbiaaY
theorem rdM (M : List Me) (i : Int) : rd_T81 M i = atM M i := rfl
theorem less_eq (a b c d : Int) : impl_measure_less.f a b c d = some (ltB ⟨a, b⟩ ⟨c, d⟩) := by
  unfold impl_measure_less.f ltB
  by_cases h : a < c
  · rw [if_pos h, decide_eq_true h]; rfl
  · rw [if_neg h, decide_eq_false h]
    by_cases h2 : a = c
    · rw [if_pos h2, decide_eq_true h2]; rfl
    · rw [if_neg h2, decide_eq_false h2]; rfl
theorem tw_pass {n : Int} {l : List Ar} (hN : NetP n l) {t : Int} (ht0 : 0 ≤ t) (htn : t < n) {r : List Me} (d : Nat) : ∀ (i : Nat) (M : List Me) (c : Bool), i ≤ l.length → l.length - i = d → Inv n l t M →
    Ev (fun k => impl_Net_toward.l0 k (pass M c (l.drop i)).1 (pass M c (l.drop i)).2 n l) r → Ev (fun k => impl_Net_toward.l1 k M c l (l.length : Int) (i : Int) n l) r := by
  have hfew := hN.few
  induction d with
  | zero =>
    intro i M c hi hd hM h
    rw [List.drop_eq_nil_of_le (by omega)] at h
    exact Ev.step (fun k => impl_Net_toward.l1.eq_2 _ _ _ _ _ _ _ _) (Ev.neg (by omega) h)
  | succ d ih =>
    intro i M c hi hd hM h
    have hmem : l.getD i arz ∈ l := by rw [getDA l i (by omega)]; exact List.getElem_mem _
    rw [dropA l i (by omega)] at h
    obtain ⟨a0, a1, a2, a3, a4, a5, a6, _⟩ := hN.arc _ hmem
    have hlen := hM.len
    have h1 := hN.lo
    refine Ev.step (fun k => impl_Net_toward.l1.eq_2 _ _ _ _ _ _ _ _) (Ev.pos (by omega) (Ev.pos (by omega) (Ev.pos (by omega) ?_)))
    rw [rdA, nxt i (by omega)]
    generalize l.getD i arz = a at *
    have hb := hM.bounds hN a.f1 a2 a3
    refine Ev.pos a2 (Ev.pos (by omega) ?_)
    simp only [rdM]
    by_cases hf : (atM M a.f1).f0 = 99999
    · refine Ev.pos hf (ih (i + 1) M c (by omega) (by omega) hM ?_)
      have hc : chgB M a = false := by unfold chgB; rw [decide_eq_true hf]; rfl
      have hx : rlx M a = M := by unfold rlx; rw [if_neg (by rw [hc]; simp)]
      have e : pass M c (a :: l.drop (i + 1)) = pass M c (l.drop (i + 1)) := by show pass (rlx M a) (c || chgB M a) _ = _; rw [hx, hc, Bool.or_false]
      rw [e] at h; exact h
    · refine Ev.neg hf (Ev.pos a0 (Ev.pos (by omega) (Ev.bnd0 (less_eq _ _ _ _) ?_)))
      rw [w64 (x := (atM M a.f1).f0 + a.f2) (by omega) (by omega), w64 (x := (atM M a.f1).f1 + 1) (by omega) (by omega)]
      have hcc : chgB M a = ltB (nxM M a) (atM M a.f0) := by unfold chgB; rw [decide_eq_false hf]; rfl
      by_cases hc : chgB M a = true
      · refine Ev.pos (by rw [hcc] at hc; exact hc) (ih (i + 1) _ true (by omega) (by omega) ?_ ?_)
        · have := inv_rlx hN ht0 htn hM hmem
          unfold rlx at this
          rw [if_pos hc] at this
          exact this
        · have e : pass M c (a :: l.drop (i + 1)) = pass (M.set a.f0.toNat (nxM M a)) true (l.drop (i + 1)) := by
            show pass (rlx M a) (c || chgB M a) _ = _
            unfold rlx; rw [if_pos hc, hc, Bool.or_true]
          rw [e] at h; exact h
      · refine Ev.neg (by rw [hcc] at hc; exact hc) (ih (i + 1) M c (by omega) (by omega) hM ?_)
        have hx : rlx M a = M := by unfold rlx; rw [if_neg hc]
        have e : pass M c (a :: l.drop (i + 1)) = pass M c (l.drop (i + 1)) := by show pass (rlx M a) (c || chgB M a) _ = _; rw [hx, show chgB M a = false by simpa using hc, Bool.or_false]
        rw [e] at h; exact h
theorem tw_loop {n : Int} {l : List Ar} (hN : NetP n l) {t : Int} (ht0 : 0 ≤ t) (htn : t < n) (C : Nat) : ∀ (A : Nat) (M : List Me), sc M = C → sa M = A → Inv n l t M → ∃ M', Ev (fun k => impl_Net_toward.l0 k M true n l) M' ∧ Best n l t M' := by
  induction C using Nat.strongRecOn with
  | ind C ihC =>
    intro A
    induction A using Nat.strongRecOn with
    | ind A ihA =>
      intro M hC hA hM
      obtain ⟨i1, i2, i3, i4, i5⟩ := pass_spec hN ht0 htn l M false (fun _ h => h) hM
      have go : ∀ r, Ev (fun k => impl_Net_toward.l0 k (pass M false l).1 (pass M false l).2 n l) r → Ev (fun k => impl_Net_toward.l0 k M true n l) r := fun r h =>
        Ev.step (fun k => impl_Net_toward.l0.eq_2 _ _ _ _ _) (Ev.pos rfl (tw_pass hN ht0 htn l.length 0 M false (by omega) (by omega) hM h))
      cases hp : (pass M false l).2 with
      | false =>
        obtain ⟨e1, e2⟩ := i5 hp
        refine ⟨M, go M ?_, { toInv := hM, fix := e2 }⟩
        rw [hp, e1]
        exact Ev.step (fun k => impl_Net_toward.l0.eq_2 _ _ _ _ _) (Ev.neg (by simp) (Ev.now _))
      | true =>
        have hl := i4 rfl hp
        have rec_ : ∃ M', Ev (fun k => impl_Net_toward.l0 k (pass M false l).1 true n l) M' ∧ Best n l t M' := by
          rcases hl with h | ⟨h, h'⟩
          · exact ihC _ (by omega) _ _ rfl rfl i1
          · exact ihA _ (by omega) _ (by omega) rfl i1
        obtain ⟨M', e, b⟩ := rec_
        exact ⟨M', go M' (by rw [hp]; exact e), b⟩
theorem toward_ev {n : Int} {l : List Ar} (hN : NetP n l) {t : Int} (ht0 : 0 ≤ t) (htn : t < n) : ∃ M, Ev (fun k => impl_Net_toward.f k n l t) M ∧ Best n l t M := by
  have h1 := hN.lo
  have h8 := hN.hi
  obtain ⟨M, e, b⟩ := tw_loop hN ht0 htn _ _ _ rfl rfl (init_inv hN ht0 htn)
  refine ⟨M, ?_, b⟩
  unfold impl_Net_toward.f
  refine Ev.bnd0 (a := List.replicate n.toNat (⟨99999, 0⟩ : Me)) ?_ (Ev.pos ht0 (Ev.pos (by rw [List.length_replicate]; omega) e))
  show (if 0 ≤ n then (if n ≤ 64 then some (List.replicate n.toNat (⟨99999, 0⟩ : Me)) else none) else none) = _
  rw [if_pos (by omega), if_pos (by omega)]
theorem costs_loop {M : List Me} (hM : M.length ≤ 1000) (d : Nat) : ∀ i : Nat, i ≤ M.length → M.length - i = d → Ev (fun k => impl_costs.l0 k (costsL (M.take i)) M (M.length : Int) (i : Int)) (costsL M) := by
  induction d with
  | zero =>
    intro i hi hd
    have e : i = M.length := by omega
    subst e
    exact Ev.step (fun k => impl_costs.l0.eq_2 _ _ _ _ _) (Ev.neg (by omega) (Ev.now' (by rw [List.take_length])))
  | succ d ih =>
    intro i hi hd
    have hl : (costsL (M.take i)).length = i := by simp [costsL]; omega
    refine Ev.step (fun k => impl_costs.l0.eq_2 _ _ _ _ _) (Ev.pos (by omega) (Ev.pos (by omega) (Ev.pos (by omega) (Ev.pos (by omega) ?_))))
    rw [nxt i (by omega)]
    have e : costsL (M.take i) ++ [(rd_T81 M (i : Int)).f0] = costsL (M.take (i + 1)) := by
      have e2 : atM M (i : Int) = M[i] := by unfold atM; rw [Int.toNat_natCast, List.getD_eq_getElem?_getD, List.getElem?_eq_getElem (by omega)]; rfl
      unfold costsL
      rw [rdM, e2, List.take_succ_eq_append_getElem (by omega), List.map_append]
      rfl
    rw [e]
    exact ih (i + 1) (by omega) (by omega)
theorem costs_ev {M : List Me} (hM : M.length ≤ 1000) : Ev (fun k => impl_costs.f k M) (costsL M) := by
  unfold impl_costs.f
  exact Ev.pos (by omega) (Ev.pos (by omega) (costs_loop hM M.length 0 (by omega) (by omega)))
/-! ### Whole functions -/
def nodeB (n : Int) (l : List Ar) (v : Int) : Bool := netOkB n l && decide (0 ≤ v ∧ v ≤ wrap64 (n - 1))
theorem nodeB_of {n v : Int} {l : List Ar} (h : nodeB n l v = true) : NetP n l ∧ 0 ≤ v ∧ v < n := by
  unfold nodeB at h
  simp only [Bool.and_eq_true, decide_eq_true_eq] at h
  have hN := netP_of h.1
  have := hN.lo
  have := hN.hi
  rw [w64 (x := n - 1) (by omega) (by omega)] at h
  exact ⟨hN, by omega, by omega⟩
theorem nodesIn_ev (n : Int) (l : List Ar) (v : Int) : impl_nodesIn.f n l [v] = some (nodeB n l v) := by
  unfold impl_nodesIn.f nodeB
  show (some (netOkB n l)).bind _ = _
  rw [Option.bind_some]
  cases netOkB n l with
  | false => rfl
  | true =>
    rw [if_pos rfl]
    show (some (!([v].any (n_no n)))).bind _ = _
    unfold n_no
    simp
theorem from_ev {n : Int} {l : List Ar} (hN : NetP n l) {v : Int} (h0 : 0 ≤ v) (h1 : v < n) : ∃ M, Best n (turnL l) v M ∧ Ev (fun k => impl_Net_from.f k n l v) (costsL M) := by
  have hN' := turnP hN
  obtain ⟨M, e, b⟩ := toward_ev hN' h0 h1
  have hl := b.len
  have h8 := hN.hi
  have hf := hN.few
  refine ⟨M, b, ?_⟩
  unfold impl_Net_from.f
  exact Ev.bnd (iback_ev n l (by omega)) (Ev.bnd e (Ev.bnd (costs_ev (by omega)) (Ev.now _)))
theorem inearAll_ev (n : Int) (l : List Ar) (v : Int) : ∃ d, Ev (fun k => impl_NearAll.f k n l v) d ∧ d.length ≤ 8 ∧ (nodeB n l v = false → d = []) ∧ (nodeB n l v = true → ∃ M, Best n (turnL l) v M ∧ d = costsL M) := by
  by_cases hb : nodeB n l v = true
  · obtain ⟨hN, h0, h1⟩ := nodeB_of hb
    obtain ⟨M, b, e⟩ := from_ev hN h0 h1
    have hlen := b.len
    have h8 := hN.hi
    refine ⟨costsL M, ?_, by unfold costsL; rw [List.length_map]; omega, fun h => absurd (hb.symm.trans h) (by simp), fun _ => ⟨M, b, rfl⟩⟩
    unfold impl_NearAll.f
    exact Ev.bnd0 (nodesIn_ev n l v) (Ev.pos hb (Ev.bnd e (Ev.now _)))
  · refine ⟨[], ?_, by simp, fun _ => rfl, fun h => absurd h hb⟩
    unfold impl_NearAll.f
    exact Ev.bnd0 (nodesIn_ev n l v) (Ev.neg hb (Ev.now _))
end Go.Proofs.Ytfijdkjibjdbiaa.M
