/- Costs with turns beside costs without: no less; without any turn the same. -/
import Derived.Test.YtcfmejfmjjgoaaaMBell3
import Derived.Test.YtcfmejfmjjgoaaaMNear4
import Derived.Test.YtcfmejfmjjgoaaaMBell
import Derived.Test.YtcfmejfmjjgoaaaMBell2
import Derived.Test.YtcfmejfmjjgoaaaMEdge
import Derived.Test.YtcfmejfmjjgoaaaMNear
import Derived.Test.YtcfmejfmjjgoaaaMNet
import Derived.Test.YtcfmejfmjjgoaaaMTurn
import Derived.Test.YtcfmejfmjjgoaaaMTurns
import Derived.Test.YtcfmejfmjjgoaaaMTurns2

set_option linter.unusedVariables false
set_option linter.unusedSimpArgs false
namespace Go.Proofs.Ytcfmejfmjjgoaaa.M
open Go.RowKit Go.Proofs.Ytcfmejfmjjgoaaa.Print Go.Proofs.YtcfmejfmjjgoaaaW.PrintWords Go.Proofs.YtcfmejfmjjgoaaaW.PrintLast Go.Proofs.YtcfmejfmjjgoaaaY
section
variable {n : Int} {l : List Ar} {v : Int} {M : List Me} (hN : NetP n l) (b : Best n (turnL l) v M)
include b
theorem near_step {a : Ar} (ha : a ∈ l) (h : (atM M a.f0).f0 ≠ 99999) : (atM M a.f1).f0 ≤ (atM M a.f0).f0 + a.f2 := by
  have hfix := b.fix (turnA a) (List.mem_map.2 ⟨a, ha, rfl⟩)
  unfold chgB at hfix
  rw [decide_eq_false (show ¬ (atM M (turnA a).f1).f0 = 99999 from h), Bool.not_false, Bool.true_and] at hfix
  have hn : ¬ lt2 (nxM M (turnA a)) (atM M (turnA a).f0) := fun hl => by rw [ltB_iff.2 hl] at hfix; cases hfix
  have h1 : ¬ ((atM M a.f0).f0 + a.f2 < (atM M a.f1).f0) := fun z => hn (.inl z)
  omega
theorem near_low {t : List Tu} (hv0 : 0 ≤ v) (hv1 : v < n) : ∀ {p : List Nat} {i : Nat}, gP (tG hN t v) (i :: p) → (atM M (l.getD i arz).f1).f0 ≤ gC (tG hN t v) (i :: p)
  | [], i, hp => by
    have hi : i < l.length := hp.1
    have h1 : tS l v i < 99999 := hp.2
    have ga := arcAt hN i hi
    have hmem : l.getD i arz ∈ l := by rw [getDA l i hi]; exact List.getElem_mem _
    show _ ≤ tS l v i
    unfold tS at h1 ⊢
    by_cases c : (l.getD i arz).f0 = v
    · rw [if_pos c]
      have e : (atM M (l.getD i arz).f0).f0 = 0 := by rw [c, b.tgt]
      have := near_step b hmem (by omega)
      omega
    · rw [if_neg c] at h1; omega
  | k :: q, i, hp => by
    have hi : i < l.length := hp.1
    have ih := near_low hv0 hv1 hp.2.2
    have he := tE_iff.1 hp.2.1
    have ga := arcAt hN i hi
    have hmem : l.getD i arz ∈ l := by rw [getDA l i hi]; exact List.getElem_mem _
    have top := b.top (l.getD i arz).f1 ga.2.2.1 ga.2.2.2.1
    rw [he.1] at ih
    show _ ≤ gC (tG hN t v) (k :: q) + (tCost (k : Int) (i : Int) t + (l.getD i arz).f2)
    by_cases c : (atM M (l.getD i arz).f0).f0 = 99999
    · omega
    · have := near_step b hmem c
      omega
theorem near_le {t : List Tu} {B : List Int} (hv0 : 0 ≤ v) (hv1 : v < n) (g : GInv (tG hN t v) B) (j : Nat) (hj : (j : Int) < n) : (atM M (j : Int)).f0 ≤ (outA n l v B).getD j 0 := by
  have top := b.top (j : Int) (by omega) hj
  rcases outA_one (l := l) (B := B) hv0 hv1 j hj with e | ⟨q, q1, q2, q3⟩
  · rw [e]
    by_cases c : v = j
    · rw [if_pos c, ← c, b.tgt]; exact Int.le_refl _
    · rw [if_neg c]; exact top
  · rw [q3]
    have rq := g.rng q q1
    have ga := arcAt hN q q1
    by_cases c : B.getD q 0 < 99999
    · obtain ⟨p, p1, _, p3, _⟩ := g.wit q q1 c
      have := near_low hN b hv0 hv1 p1
      rw [p3, show (l.getD q arz).f1 = (j : Int) by omega] at this
      exact this
    · omega
omit b in
theorem near_up {B : List Int} (f : GFix (tG hN [] v) B) : ∀ (p : List Ar) (a : Ar), Pth (turnL l) v a.f0 (a :: p) → cst (a :: p) < 99999 → ∀ q, q < l.length → turnA (l.getD q arz) = a → B.getD q 0 ≤ cst (a :: p)
  | [], a, hp, hc, q, hq, e => by
    have h1 : a.f1 = v := hp.2.2
    have hs := f.st q hq
    have eS : tS l v q = a.f2 := by
      have h2 : (l.getD q arz).f0 = v := by rw [← h1, ← e]; rfl
      unfold tS
      rw [if_pos h2, ← e]; rfl
    have : B.getD q 0 ≤ tS l v q := hs
    show _ ≤ a.f2 + 0
    omega
  | a1 :: p, a, hp, hc, q, hq, e => by
    obtain ⟨h1, _, h3, h4, h5⟩ := hp
    obtain ⟨q1, hq1, e1⟩ : ∃ q1, q1 < l.length ∧ turnA (l.getD q1 arz) = a1 := by
      obtain ⟨c, hcm, rfl⟩ := List.mem_map.1 h3
      obtain ⟨j, hj, rfl⟩ := List.getElem_of_mem hcm
      exact ⟨j, hj, by rw [getDA l j hj]⟩
    have ga := arcAt hN q hq
    have ea : a.f2 = (l.getD q arz).f2 := by rw [← e]; rfl
    have hc' : a.f2 + cst (a1 :: p) < 99999 := hc
    have ih := near_up f p a1 ⟨h3, rfl, h5⟩ (by omega) q1 hq1 e1
    have hE : tE l [] q1 q = true := tE_iff.2 ⟨by
      have x1 : (l.getD q1 arz).f1 = a1.f0 := by rw [← e1]; rfl
      have x2 : (l.getD q arz).f0 = a.f1 := by rw [← e]; rfl
      rw [x1, x2, h4], by unfold tCost; omega⟩
    have := f.ed q1 q hq1 hq hE (by omega)
    have eW : (tG hN [] v).W q1 q = a.f2 := by
      show tCost _ _ [] + (l.getD q arz).f2 = _
      rw [ea]; unfold tCost; omega
    rw [eW] at this
    show _ ≤ a.f2 + cst (a1 :: p)
    omega
theorem near_ge {B : List Int} (hv0 : 0 ≤ v) (hv1 : v < n) (g : GInv (tG hN [] v) B) (f : GFix (tG hN [] v) B) (j : Nat) (hj : (j : Int) < n) : (outA n l v B).getD j 0 ≤ (atM M (j : Int)).f0 := by
  have rg := outA_rng g hv0 hv1 j hj
  by_cases c : (atM M (j : Int)).f0 = 99999
  · omega
  · obtain ⟨p, p1, p2, p3⟩ := best_cost (turnP hN) b (show 0 ≤ (j : Int) by omega) hj c
    cases p with
    | nil =>
      have e : (j : Int) = v := p1
      have := outA_top (l := l) (B := B) hv0 hv1 j hj
      rw [if_pos e.symm] at this
      have e2 : (0 : Int) = (atM M (j : Int)).f0 := p2
      omega
    | cons a p =>
      obtain ⟨h1, h2, h3⟩ := p1
      obtain ⟨q, hq, e⟩ : ∃ q, q < l.length ∧ turnA (l.getD q arz) = a := by
        obtain ⟨c, hcm, rfl⟩ := List.mem_map.1 h1
        obtain ⟨i, hi, rfl⟩ := List.getElem_of_mem hcm
        exact ⟨i, hi, by rw [getDA l i hi]⟩
      have := near_up hN f p a ⟨h1, rfl, h3⟩ p3 q hq e
      rw [p2] at this
      refine Int.le_trans (outA_le hv0 hv1 j hj q hq ?_) this
      have e1 : (l.getD q arz).f1 = a.f0 := by rw [← e]; rfl
      rw [e1, h2]; omega
end
end Go.Proofs.Ytcfmejfmjjgoaaa.M
