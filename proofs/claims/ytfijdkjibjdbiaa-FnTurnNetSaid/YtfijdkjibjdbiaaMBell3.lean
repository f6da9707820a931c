/- What holds of the costs with turns: they are no more than any walk costs; fewer turns that cost something, no more cost, and as much within reach. -/
import Derived.Test.YtfijdkjibjdbiaaMBell2
import Derived.Test.YtfijdkjibjdbiaaPrintF10
import Derived.Test.YtfijdkjibjdbiaaPrintF32
set_option linter.unusedVariables false
set_option linter.unusedSimpArgs false
namespace Go.Proofs.Ytfijdkjibjdbiaa.M
open Go.RowKit Go.Proofs.Ytfijdkjibjdbiaa.Print Go.Proofs.YtfijdkjibjdbiaaW.PrintWords Go.Proofs.YtfijdkjibjdbiaaW.PrintLast Go.Proofs.YtfijdkjibjdbiaaY
section
variable {n : Int} {l : List Ar} {v : Int} {B : List Int}
theorem outA_le (h0 : 0 ≤ v) (h1 : v < n) (j : Nat) (hj : (j : Int) < n) (q : Nat) (hq : q < l.length) (e : (l.getD q arz).f1.toNat = j) : (outA n l v B).getD j 0 ≤ B.getD q 0 :=
  (finG_spec l B l.length _ 0 j).2.1 q (by omega) (by omega) e (by simp; omega)
theorem outA_top (h0 : 0 ≤ v) (h1 : v < n) (j : Nat) (hj : (j : Int) < n) : (outA n l v B).getD j 0 ≤ if v = j then 0 else 99999 := by
  have := (finG_spec l B l.length ((List.replicate n.toNat (99999 : Int)).set v.toNat 0) 0 j).1
  rw [outA_init h0 h1 j hj] at this
  exact this
theorem outA_one (h0 : 0 ≤ v) (h1 : v < n) (j : Nat) (hj : (j : Int) < n) : (outA n l v B).getD j 0 = (if v = j then 0 else 99999) ∨ ∃ q, q < l.length ∧ (l.getD q arz).f1.toNat = j ∧ (outA n l v B).getD j 0 = B.getD q 0 := by
  rcases (finG_spec l B l.length ((List.replicate n.toNat (99999 : Int)).set v.toNat 0) 0 j).2.2 with h | ⟨q, _, q2, q3, q4⟩
  · rw [outA_init h0 h1 j hj] at h; exact .inl h
  · exact .inr ⟨q, by omega, q3, q4⟩
theorem outA_rng {hN : NetP n l} {t : List Tu} (g : GInv (tG hN t v) B) (h0 : 0 ≤ v) (h1 : v < n) (j : Nat) (hj : (j : Int) < n) : 0 ≤ (outA n l v B).getD j 0 ∧ (outA n l v B).getD j 0 ≤ 99999 := by
  rcases outA_one (l := l) (B := B) h0 h1 j hj with h | ⟨q, q1, _, q3⟩
  · rw [h]; split <;> omega
  · rw [q3]; exact g.rng q q1
theorem outA_self {hN : NetP n l} {t : List Tu} (g : GInv (tG hN t v) B) (h0 : 0 ≤ v) (h1 : v < n) : (outA n l v B).getD v.toNat 0 = 0 := by
  have a := (outA_rng g h0 h1 v.toNat (by omega)).1
  have b := outA_top (l := l) (B := B) h0 h1 v.toNat (by omega)
  rw [if_pos (by omega)] at b
  omega
end
/-! ### Forbidden turns alone -/
def fewT (t : List Tu) : List Tu := t.filter (fun x => decide (x.f2 < 0))
theorem few_cost (a b : Int) : ∀ t : List Tu, t.Pairwise (fun x y => ¬ (x.f0 = y.f0 ∧ x.f1 = y.f1)) → tCost a b (fewT t) = if tCost a b t < 0 then tCost a b t else 0
  | [], _ => by simp [fewT, tCost]
  | x :: r, h => by
    obtain ⟨h1, h2⟩ := List.pairwise_cons.1 h
    have ih := few_cost a b r h2
    by_cases c : x.f0 = a ∧ x.f1 = b
    · have none_ : ∀ q : List Tu, (∀ y ∈ q, ¬ (x.f0 = y.f0 ∧ x.f1 = y.f1)) → tCost a b q = 0 := by
        intro q hq
        induction q with
        | nil => rfl
        | cons y q ihq =>
          unfold tCost
          rw [if_neg (fun z => hq y (List.mem_cons_self ..) ⟨c.1.trans z.1.symm, c.2.trans z.2.symm⟩)]
          exact ihq (fun z hz => hq z (List.mem_cons_of_mem _ hz))
      have e1 : tCost a b (x :: r) = x.f2 := by conv => lhs; unfold tCost; rw [if_pos c]
      rw [e1]
      by_cases n : x.f2 < 0
      · have e2 : fewT (x :: r) = x :: fewT r := by unfold fewT; rw [List.filter_cons_of_pos (by simpa using n)]
        rw [e2, if_pos n]
        conv => lhs; unfold tCost; rw [if_pos c]
      · have e2 : fewT (x :: r) = fewT r := by unfold fewT; rw [List.filter_cons_of_neg (by simpa using n)]
        rw [e2, if_neg n]
        exact none_ _ (fun y hy => h1 y ((List.mem_filter.1 hy).1))
    · have e1 : tCost a b (x :: r) = tCost a b r := by conv => lhs; unfold tCost; rw [if_neg c]
      rw [e1, ← ih]
      by_cases n : x.f2 < 0
      · have e2 : fewT (x :: r) = x :: fewT r := by unfold fewT; rw [List.filter_cons_of_pos (by simpa using n)]
        rw [e2]
        conv => lhs; unfold tCost; rw [if_neg c]
      · have e2 : fewT (x :: r) = fewT r := by unfold fewT; rw [List.filter_cons_of_neg (by simpa using n)]
        rw [e2]
theorem turnsB_to {n : Int} {l : List Ar} {t : List Tu} (h : netOkB n l = true) (h1 : t.length ≤ 12) (h2 : ∀ x ∈ t, tIn l x) (h3 : t.Pairwise (fun x y => ¬ (x.f0 = y.f0 ∧ x.f1 = y.f1))) : turnsB n l t = true := by
  unfold turnsB
  rw [h, decide_eq_true h1, Bool.true_and, Bool.true_and]
  unfold tGo
  rw [List.all_eq_true]
  intro i hi
  rw [List.mem_range'] at hi
  obtain ⟨j, hj, rfl⟩ := hi
  rw [show 0 + 1 * j = j by omega]
  unfold tOne
  rw [getDT t j hj, decide_eq_true (h2 _ (List.getElem_mem _)), Bool.true_and]
  cases hc : (t.take j).any (to_eq t[j].f0 t[j].f1) with
  | false => rfl
  | true =>
    obtain ⟨y, hy, he⟩ := List.any_eq_true.1 hc
    obtain ⟨i, hi, rfl⟩ := List.mem_take_iff_getElem.1 hy
    rw [List.pairwise_iff_getElem] at h3
    unfold to_eq at he
    simp only [Bool.and_eq_true, beq_iff_eq] at he
    exact absurd he (h3 i j (by omega) hj (by omega))
theorem few_ok {n : Int} {l : List Ar} {t : List Tu} (h : turnsB n l t = true) : turnsB n l (fewT t) = true :=
  turnsB_to (turns_net h) (Nat.le_trans (List.length_filter_le _ _) (turns_few h)) (fun x hx => turns_in h x ((List.mem_filter.1 hx).1)) ((turns_once h).filter _)
section
variable {n : Int} {l : List Ar} {t : List Tu} {v : Int} (h : turnsB n l t = true) (hN : NetP n l)
include h
theorem few_E (k i : Nat) : tE l (fewT t) k i = tE l t k i := by
  unfold tE
  rw [few_cost _ _ t (turns_once h)]
  congr 1
  by_cases c : tCost (k : Int) (i : Int) t < 0
  · rw [if_pos c]
  · rw [if_neg c, decide_eq_true (by omega), decide_eq_true (by omega)]
theorem few_W (k i : Nat) (e : tE l t k i = true) : tW l (fewT t) k i ≤ tW l t k i ∧ tW l t k i ≤ tW l (fewT t) k i + 99 := by
  have h0 := (tE_iff.1 e).2
  have bd := tCost_bd (k : Int) (i : Int) t (fun x hx => (turns_in h x hx).2.2.2.2.2)
  unfold tW
  rw [few_cost _ _ t (turns_once h), if_neg (by omega)]
  omega
theorem few_path : ∀ {p : List Nat}, (gP (tG hN (fewT t) v) p ↔ gP (tG hN t v) p)
  | [] => Iff.rfl
  | [i] => Iff.rfl
  | i :: k :: q => by
    have ih := few_path (p := k :: q)
    constructor
    · rintro ⟨a, b, c⟩
      exact ⟨a, by rw [← b]; exact (few_E h k i).symm, ih.1 c⟩
    · rintro ⟨a, b, c⟩
      exact ⟨a, by rw [← b]; exact few_E h k i, ih.2 c⟩
theorem few_gC : ∀ {p : List Nat}, gP (tG hN t v) p → gC (tG hN (fewT t) v) p ≤ gC (tG hN t v) p ∧ gC (tG hN t v) p ≤ gC (tG hN (fewT t) v) p + 99 * p.length
  | [], hp => hp.elim
  | [i], hp => ⟨Int.le_refl _, by show tS l v i ≤ tS l v i + _; simp; omega⟩
  | i :: k :: q, hp => by
    have ih := few_gC hp.2.2
    have hw := few_W h k i hp.2.1
    constructor
    · show gC (tG hN (fewT t) v) (k :: q) + tW l (fewT t) k i ≤ gC (tG hN t v) (k :: q) + tW l t k i
      omega
    · show gC (tG hN t v) (k :: q) + tW l t k i ≤ gC (tG hN (fewT t) v) (k :: q) + tW l (fewT t) k i + 99 * ((i :: k :: q).length : Nat)
      have ih2 := ih.2
      simp only [List.length_cons] at ih2 ⊢
      omega
omit h in
theorem few_small {t : List Tu} (hb : ∀ x ∈ t, -1 ≤ x.f2 ∧ x.f2 ≤ 99) : ∀ {p : List Nat}, gP (tG hN t v) p → gC (tG hN t v) p ≤ 200 * p.length
  | [], hp => hp.elim
  | [i], hp => by
    have h1 : tS l v i < 99999 := hp.2
    have := arcAt hN i hp.1
    show tS l v i ≤ _
    unfold tS at h1 ⊢
    simp only [List.length_cons, List.length_nil]
    split <;> rename_i c
    · omega
    · rw [if_neg c] at h1; omega
  | i :: k :: q, hp => by
    have ih := few_small hb hp.2.2
    have bd := tCost_bd (k : Int) (i : Int) t hb
    have := arcAt hN i hp.1
    show gC (tG hN t v) (k :: q) + (tCost (k : Int) (i : Int) t + (l.getD i arz).f2) ≤ _
    simp only [List.length_cons] at ih ⊢
    omega
theorem few_le {B C : List Int} (g : GInv (tG hN t v) B) (f : GFix (tG hN t v) B) (g' : GInv (tG hN (fewT t) v) C) (f' : GFix (tG hN (fewT t) v) C) (q : Nat) (hq : q < l.length) : C.getD q 0 ≤ B.getD q 0 ∧ (C.getD q 0 < 99999 → B.getD q 0 < 99999) := by
  have hfew := hN.few
  have rb := g.rng q hq
  have rc := g'.rng q hq
  have hb : ∀ x ∈ t, -1 ≤ x.f2 ∧ x.f2 ≤ 99 := fun x hx => (turns_in h x hx).2.2.2.2.2
  refine ⟨?_, fun hF => ?_⟩
  · by_cases c : B.getD q 0 < 99999
    · obtain ⟨p, p1, p2, p3, _⟩ := g.wit q hq c
      have h1 := few_gC h hN p1
      have := fix_le f' ((few_path h hN).2 p1) (by omega)
      omega
    · omega
  · obtain ⟨p, p1, p2, p3, _⟩ := g'.wit q hq hF
    have p1' := (few_path h hN).1 p1
    have h1 := few_small hN hb p1'
    have h2 := nodup_few l.length _ p2 (gP_all p1)
    have := fix_le f p1' (by omega)
    omega
theorem few_out {B C : List Int} (h0 : 0 ≤ v) (h1 : v < n) (g : GInv (tG hN t v) B) (f : GFix (tG hN t v) B) (g' : GInv (tG hN (fewT t) v) C) (f' : GFix (tG hN (fewT t) v) C) (j : Nat) (hj : (j : Int) < n) :
    (outA n l v C).getD j 0 ≤ (outA n l v B).getD j 0 ∧ ((outA n l v C).getD j 0 < 99999 ↔ (outA n l v B).getD j 0 < 99999) := by
  have key : (outA n l v C).getD j 0 ≤ (outA n l v B).getD j 0 := by
    rcases outA_one (l := l) (B := B) h0 h1 j hj with e | ⟨q, q1, q2, q3⟩
    · rw [e]; exact outA_top h0 h1 j hj
    · rw [q3]; exact Int.le_trans (outA_le h0 h1 j hj q q1 q2) (few_le h hN g f g' f' q q1).1
  refine ⟨key, fun hF => ?_, fun hF => by omega⟩
  rcases outA_one (l := l) (B := C) h0 h1 j hj with e | ⟨q, q1, q2, q3⟩
  · have t0 := outA_top (l := l) (B := B) h0 h1 j hj
    rw [e] at hF
    by_cases c : v = j
    · rw [if_pos c] at t0; omega
    · rw [if_neg c] at hF; omega
  · rw [q3] at hF
    exact Int.lt_of_le_of_lt (outA_le h0 h1 j hj q q1 q2) ((few_le h hN g f g' f' q q1).2 hF)
end
end Go.Proofs.Ytfijdkjibjdbiaa.M
