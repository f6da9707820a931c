/- What is nearest: walks put together and turned round; whole functions. -/
import Derived.Test.YtfijdkjibjdbiaaMNear3

set_option linter.unusedVariables false
set_option linter.unusedSimpArgs false
namespace Go.Proofs.Ytfijdkjibjdbiaa.M
open Go.RowKit Go.Proofs.Ytfijdkjibjdbiaa.Print Go.Proofs.YtfijdkjibjdbiaaW.PrintWords Go.Proofs.YtfijdkjibjdbiaaW.PrintLast Go.Proofs.YtfijdkjibjdbiaaY
theorem cst_app : ∀ p q : List Ar, cst (p ++ q) = cst p + cst q
  | [], q => by simp [cst]
  | a :: p, q => by simp only [List.cons_append, cst]; rw [cst_app p q]; omega
theorem pth_app {l : List Ar} {t m : Int} : ∀ {p : List Ar} {v : Int} {q : List Ar}, Pth l m v p → Pth l t m q → Pth l t v (p ++ q)
  | [], v, q, h, k => by have e : v = m := h; subst e; exact k
  | a :: p, v, q, h, k => ⟨h.1, h.2.1, pth_app h.2.2 k⟩
theorem pth_rev {l : List Ar} {t : Int} : ∀ {p : List Ar} {v : Int}, Pth l t v p → ∃ q, Pth (turnL l) v t q ∧ cst q = cst p
  | [], v, h => by have e : v = t := h; subst e; exact ⟨[], rfl, rfl⟩
  | a :: p, v, h => by
    obtain ⟨ha, rfl, hp⟩ := h
    obtain ⟨q, hq, hc⟩ := pth_rev hp
    refine ⟨q ++ [turnA a], pth_app hq ⟨List.mem_map.2 ⟨a, ha, rfl⟩, rfl, rfl⟩, ?_⟩
    rw [cst_app, hc]
    simp only [cst, turnA]; omega
/-- From a node that isn't the last the best way goes on along an arc. -/
theorem best_first {n : Int} {l : List Ar} (hN : NetP n l) {t : Int} {M : List Me} (h : Best n l t M) {v : Int} (h0 : 0 ≤ v) (h1 : v < n) (ht : v ≠ t) (hf : (atM M v).f0 ≠ 99999) :
    ∃ a, a ∈ l ∧ a.f0 = v ∧ (atM M a.f1).f0 ≠ 99999 ∧ (atM M v).f0 = (atM M a.f1).f0 + a.f2 ∧ (atM M v).f1 = (atM M a.f1).f1 + 1 := by
  obtain ⟨p, w⟩ := h.wit v h0 h1 hf
  have htop := h.top v h0 h1
  cases p with
  | nil => exact absurd w.pth ht
  | cons a q =>
    obtain ⟨ha, rfl, hq⟩ := w.pth
    obtain ⟨a0, a1, a2, a3, a4, a5, a6, _⟩ := hN.arc a ha
    have hc := w.c
    have hm := w.m
    simp only [cst, List.length_cons] at hc hm
    obtain ⟨g1, g2⟩ := best_le hN h a2 a3 hq (by omega)
    have hle : le2 (atM M a.f1) ⟨cst q, q.length⟩ := by
      cases q with
      | nil =>
        have e : a.f1 = t := hq
        rw [e, h.tgt]; exact le2_refl _
      | cons b q2 =>
        have := w.low.2.1
        rw [show b.f0 = a.f1 from hq.2.1] at this
        simpa only [cst, List.length_cons, Int.natCast_add, Int.cast_ofNat_Int] using this
    have hfix := h.fix a ha
    unfold chgB at hfix
    rw [decide_eq_false g2, Bool.not_false, Bool.true_and] at hfix
    have hn : ¬ lt2 (nxM M a) (atM M a.f0) := fun hl => by rw [ltB_iff.2 hl] at hfix; cases hfix
    unfold lt2 nxM at hn
    unfold le2 at hle
    simp only at hn hle
    refine ⟨a, ha, rfl, g2, ?_, ?_⟩ <;> omega
/-- Two ways to say how far it is. -/
theorem best_cost {n : Int} {l : List Ar} (hN : NetP n l) {t : Int} {M : List Me} (h : Best n l t M) {v : Int} (h0 : 0 ≤ v) (h1 : v < n) (hf : (atM M v).f0 ≠ 99999) : ∃ p, Pth l t v p ∧ cst p = (atM M v).f0 ∧ cst p < 99999 := by
  obtain ⟨p, w⟩ := h.wit v h0 h1 hf
  have := h.top v h0 h1
  exact ⟨p, w.pth, w.c.symm, by rw [← w.c]; omega⟩
theorem turn_dist {n : Int} {l : List Ar} (hN : NetP n l) {u v : Int} (hu0 : 0 ≤ u) (hu1 : u < n) (hv0 : 0 ≤ v) (hv1 : v < n) {M M' : List Me} (h : Best n l v M) (h' : Best n (turnL l) u M') : (atM M u).f0 = (atM M' v).f0 := by
  have hN' := turnP hN
  have d1 := h.top u hu0 hu1
  have d2 := h'.top v hv0 hv1
  have one : (atM M u).f0 ≠ 99999 → (atM M' v).f0 ≤ (atM M u).f0 ∧ (atM M' v).f0 ≠ 99999 := fun hf => by
    obtain ⟨p, hp, hc, hlt⟩ := best_cost hN h hu0 hu1 hf
    obtain ⟨q, hq, hcq⟩ := pth_rev hp
    have := best_le hN' h' hv0 hv1 hq (by omega)
    omega
  have two : (atM M' v).f0 ≠ 99999 → (atM M u).f0 ≤ (atM M' v).f0 ∧ (atM M u).f0 ≠ 99999 := fun hf => by
    obtain ⟨p, hp, hc, hlt⟩ := best_cost hN' h' hv0 hv1 hf
    obtain ⟨q, hq, hcq⟩ := pth_rev hp
    rw [turn2] at hq
    have := best_le hN h hu0 hu1 hq (by omega)
    omega
  by_cases e : (atM M u).f0 = 99999
  · by_cases e2 : (atM M' v).f0 = 99999
    · omega
    · exact absurd e (two e2).2
  · have := one e
    have := two this.2
    omega
theorem best_uniq {n : Int} {l : List Ar} (hN : NetP n l) {t : Int} (ht0 : 0 ≤ t) (htn : t < n) {M M' : List Me} (h : Best n l t M) (h' : Best n l t M') : costsL M = costsL M' := (dist_eq hN ht0 htn h).symm.trans (dist_eq hN ht0 htn h')
end Go.Proofs.Ytfijdkjibjdbiaa.M
