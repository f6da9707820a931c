/- Costs from arc to arc in the net of arcs are costs with turns. -/
import Derived.Test.YtfijdkjibjdbiaaMBell3
import Derived.Test.YtfijdkjibjdbiaaMNear4
import Derived.Test.YtfijdkjibjdbiaaMTNet

set_option linter.unusedVariables false
set_option linter.unusedSimpArgs false
namespace Go.Proofs.Ytfijdkjibjdbiaa.M
open Go.RowKit Go.Proofs.Ytfijdkjibjdbiaa.Print Go.Proofs.YtfijdkjibjdbiaaW.PrintWords Go.Proofs.YtfijdkjibjdbiaaW.PrintLast Go.Proofs.YtfijdkjibjdbiaaY
theorem tnRow_in {l : List Ar} {t : List Tu} {i : Nat} (d : Nat) : ∀ (k : Nat) (y : Ar), y ∈ tnRow l t i k d ↔ ∃ q, k ≤ q ∧ q < k + d ∧ tE l t i q = true ∧ y = ⟨(i : Int), (q : Int), tW l t i q, 0, 9⟩ := by
  induction d with
  | zero => intro k y; simp [tnRow]; intro q h1 h2; omega
  | succ d ih =>
    intro k y
    have ih' := ih (k + 1) y
    unfold tnRow
    by_cases c : tE l t i k = true
    · rw [if_pos c, List.mem_cons, ih']
      constructor
      · rintro (h | ⟨q, h1, h2, h3⟩)
        · exact ⟨k, Nat.le_refl _, by omega, c, h⟩
        · exact ⟨q, by omega, by omega, h3⟩
      · rintro ⟨q, h1, h2, h3, h4⟩
        by_cases e : q = k
        · subst e; exact .inl h4
        · exact .inr ⟨q, by omega, by omega, h3, h4⟩
    · rw [if_neg c, ih']
      constructor
      · rintro ⟨q, h1, h2, h3⟩; exact ⟨q, by omega, by omega, h3⟩
      · rintro ⟨q, h1, h2, h3, h4⟩
        by_cases e : q = k
        · subst e; exact absurd h3 c
        · exact ⟨q, by omega, by omega, h3, h4⟩
theorem tnAll_in {l : List Ar} {t : List Tu} (d : Nat) : ∀ (i : Nat) (y : Ar), y ∈ tnAll l t i d ↔ ∃ p q, i ≤ p ∧ p < i + d ∧ q < l.length ∧ tE l t p q = true ∧ y = ⟨(p : Int), (q : Int), tW l t p q, 0, 9⟩ := by
  induction d with
  | zero => intro i y; simp [tnAll]; intro p h1 h2; omega
  | succ d ih =>
    intro i y
    unfold tnAll
    rw [List.mem_append, tnRow_in, ih (i + 1) y]
    constructor
    · rintro (⟨q, h1, h2, h3⟩ | ⟨p, q, h1, h2, h3⟩)
      · exact ⟨i, q, Nat.le_refl _, by omega, by omega, h3⟩
      · exact ⟨p, q, by omega, by omega, h3⟩
    · rintro ⟨p, q, h1, h2, h3, h4⟩
      by_cases e : p = i
      · subst e; exact .inl ⟨q, by omega, by omega, h4⟩
      · exact .inr ⟨p, q, by omega, by omega, h3, h4⟩
theorem tn_in {l : List Ar} {t : List Tu} (y : Ar) : y ∈ tnAll l t 0 l.length ↔ ∃ p q, p < l.length ∧ q < l.length ∧ tE l t p q = true ∧ y = ⟨(p : Int), (q : Int), tW l t p q, 0, 9⟩ := by
  rw [tnAll_in]
  constructor
  · rintro ⟨p, q, _, h2, h3⟩; exact ⟨p, q, by omega, h3⟩
  · rintro ⟨p, q, h2, h3⟩; exact ⟨p, q, by omega, by omega, h3⟩
section
variable {n : Int} {l : List Ar} (hN : NetP n l) (t : List Tu) {v : Int}
theorem tn_up {i : Nat} (hi : i < l.length) (hs : (l.getD i arz).f0 = v) : ∀ (p : List Ar) (j : Nat), j < l.length → Pth (turnL (tnAll l t 0 l.length)) (i : Int) (j : Int) p → ∃ q, gP (tG hN t v) (j :: q) ∧ gC (tG hN t v) (j :: q) = (l.getD i arz).f2 + cst p
  | [], j, hj, h => by
    have e : (j : Int) = (i : Int) := h
    have e2 : j = i := by omega
    subst e2
    have ga := arcAt hN j hj
    have eS : tS l v j = (l.getD j arz).f2 := by unfold tS; rw [if_pos hs]
    exact ⟨[], ⟨hj, by show tS l v j < 99999; omega⟩, by show tS l v j = _ + 0; omega⟩
  | a :: p, j, hj, h => by
    obtain ⟨h1, h2, h3⟩ := h
    obtain ⟨y, hy, rfl⟩ := List.mem_map.1 h1
    obtain ⟨x, z, hx, hz, he, rfl⟩ := (tn_in y).1 hy
    have e : z = j := by have : ((z : Nat) : Int) = (j : Int) := h2; omega
    subst e
    obtain ⟨q, g1, g2⟩ := tn_up hi hs p x hx h3
    refine ⟨x :: q, ⟨hj, he, g1⟩, ?_⟩
    show gC (tG hN t v) (x :: q) + tW l t x z = (l.getD i arz).f2 + (tW l t x z + cst p)
    omega
theorem tn_down : ∀ (p : List Nat) (i : Nat), gP (tG hN t v) (i :: p) → ∃ s p', s < l.length ∧ (l.getD s arz).f0 = v ∧ Pth (turnL (tnAll l t 0 l.length)) (s : Int) (i : Int) p' ∧ (l.getD s arz).f2 + cst p' = gC (tG hN t v) (i :: p)
  | [], i, h => by
    have h1 : i < l.length := h.1
    have h2 : tS l v i < 99999 := h.2
    have c : (l.getD i arz).f0 = v := by
      refine Decidable.byContradiction (fun c => ?_)
      unfold tS at h2; rw [if_neg c] at h2; omega
    have eS : tS l v i = (l.getD i arz).f2 := by unfold tS; rw [if_pos c]
    exact ⟨i, [], h1, c, rfl, by show _ + 0 = tS l v i; omega⟩
  | k :: q, i, h => by
    obtain ⟨s, p', h1, h2, h3, h4⟩ := tn_down q k h.2.2
    have hk : k < l.length := gP_lt h.2.2
    refine ⟨s, ⟨(i : Int), (k : Int), tW l t k i, 0, 9⟩ :: p', h1, h2, ⟨?_, rfl, h3⟩, ?_⟩
    · exact List.mem_map.2 ⟨⟨(k : Int), (i : Int), tW l t k i, 0, 9⟩, (tn_in _).2 ⟨k, i, hk, h.1, h.2.1, rfl⟩, rfl⟩
    · show (l.getD s arz).f2 + (tW l t k i + cst p') = gC (tG hN t v) (k :: q) + tW l t k i
      omega
variable {t} {B : List Int}
/-- On over the net of arcs is no dearer than it is with turns. -/
theorem tn_le (f : GFix (tG hN t v) B) (hX : NetP (l.length : Int) (tnAll l t 0 l.length)) {i m : Nat} (hi : i < l.length) (hm : m < l.length) (hs : (l.getD i arz).f0 = v) {M : List Me} (b : Best (l.length : Int) (turnL (tnAll l t 0 l.length)) (i : Int) M) (hF : (atM M (m : Int)).f0 < 99999) :
    B.getD m 0 ≤ (l.getD i arz).f2 + (atM M (m : Int)).f0 ∧ (atM M (m : Int)).f0 ≤ 1000 := by
  obtain ⟨p, w⟩ := b.wit (m : Int) (by omega) (by omega) (by omega)
  have h8 := pth_short (turnP hX) w.pth w.nod
  have hc := cst_le (turnP hX) w.pth
  have ec := w.c
  have ga := arcAt hN i hi
  obtain ⟨q, g1, g2⟩ := tn_up hN t hi hs p m hm w.pth
  have := fix_le f g1 (by omega)
  exact ⟨by omega, by omega⟩
theorem tn_ge (g : GInv (tG hN t v) B) (hX : NetP (l.length : Int) (tnAll l t 0 l.length)) {m : Nat} (hm : m < l.length) (hF : B.getD m 0 < 99999) : ∃ i, i < l.length ∧ (l.getD i arz).f0 = v ∧ ∀ M, Best (l.length : Int) (turnL (tnAll l t 0 l.length)) (i : Int) M → (atM M (m : Int)).f0 < 99999 ∧ (l.getD i arz).f2 + (atM M (m : Int)).f0 ≤ B.getD m 0 := by
  obtain ⟨p, p1, _, p3, _⟩ := g.wit m hm hF
  obtain ⟨s, p', h1, h2, h3, h4⟩ := tn_down hN t p m p1
  have ga := arcAt hN s h1
  refine ⟨s, h1, h2, fun M b => ?_⟩
  obtain ⟨k1, k2⟩ := best_le (turnP hX) b (by omega) (by omega) h3 (by omega)
  have := b.top (m : Int) (by omega) (by omega)
  exact ⟨by omega, by omega⟩
end
end Go.Proofs.Ytfijdkjibjdbiaa.M
