/- What is drawn as a net: how many nodes, which arcs; a node of it. -/
import Derived.Test.YtppjelkljihdoaaDoorY
import Derived.Test.YtppjelkljihdoaaDoorMDraw
import Derived.Test.YtppjelkljihdoaaDoorMNet
import Derived.Test.YtppjelkljihdoaaDoorPrint0
import Derived.Test.YtppjelkljihdoaaDoorPrintF10
import Derived.Test.YtppjelkljihdoaaDoorPrintF21
import Derived.Test.YtppjelkljihdoaaDoorPrintF38
set_option linter.unusedVariables false
set_option linter.unusedSimpArgs false
namespace Go.Proofs.YtppjelkljihdoaaDoor.M
open Go.RowKit Go.Proofs.YtppjelkljihdoaaDoor.Print Go.Proofs.YtppjelkljihdoaaDoorW.PrintWords Go.Proofs.YtppjelkljihdoaaDoorW.PrintLast Go.Proofs.YtppjelkljihdoaaDoorY
/-- An arc as l30Net draws it. -/
def DA (N : Int) (a : Ar) : Prop := 0 ≤ a.f0 ∧ a.f0 < N ∧ 0 ≤ a.f1 ∧ a.f1 < N ∧ a.f0 ≠ a.f1 ∧ 0 ≤ a.f2 ∧ a.f2 ≤ 99 ∧ 0 ≤ a.f3 ∧ a.f3 ≤ 8 ∧ 0 ≤ a.f4 ∧ a.f4 ≤ 9
theorem net_loop (c : List Int) (hc : Code c) (N : Int) (h2 : 2 ≤ N) (h6 : N ≤ 6) (m : Nat) : ∀ (p : Int) (l : List Ar), 0 ≤ p → p + 6 * m ≤ 1000 → l.length + m ≤ 13 → (∀ a ∈ l, DA N a) →
    ∃ l' p', Ev (fun k => spec_l30Net.l0 k (m : Int) c p N l) (N, l', p') ∧ p ≤ p' ∧ p' ≤ p + 6 * m ∧ l'.length ≤ 13 ∧ ∀ a ∈ l', DA N a := by
  induction m with
  | zero =>
    intro p l hp hm hl hs
    exact ⟨l, p, Ev.step (fun k => spec_l30Net.l0.eq_2 _ _ _ _ _ _) (Ev.neg (by omega) (Ev.now _)), by omega, by omega, by omega, hs⟩
  | succ m ih =>
    intro p l hp hm hl hs
    obtain ⟨a, ea, a0, a1, _⟩ := pick_ev c hc p N (by omega) (by omega) (by omega)
    obtain ⟨b, eb, b0, b1, _⟩ := pick_ev c hc (p + 1) N (by omega) (by omega) (by omega)
    obtain ⟨x, ex, x0, x1, _⟩ := pick_ev c hc (p + 1 + 1) 100 (by omega) (by omega) (by omega)
    obtain ⟨y, ey, hy⟩ := one_ev c hc (p + 1 + 1 + 1) [0, 1, 2, 5, 9, x] (by omega) (by omega) (by simp) (by simp)
    obtain ⟨z, ez, hz⟩ := one_ev c hc (p + 1 + 1 + 1 + 1) [0, 0, 3, 8] (by omega) (by omega) (by simp) (by simp)
    obtain ⟨u, eu, u0, u1, _⟩ := pick_ev c hc (p + 1 + 1 + 1 + 1 + 1) 10 (by omega) (by omega) (by omega)
    simp only [List.mem_cons, List.not_mem_nil, or_false] at hy hz
    have e1 : wrap64 (((m + 1 : Nat) : Int) - 1) = (m : Int) := by rw [w64 (by omega) (by omega)]; omega
    have a1' := a1 (by omega)
    have b1' := b1 (by omega)
    have x1' := x1 (by omega)
    have u1' := u1 (by omega)
    have go : ∀ t : Int, 0 ≤ t → t < N → a ≠ t → ∃ l' p', Ev (fun k => spec_l30Net.l0 k (wrap64 (((m + 1 : Nat) : Int) - 1)) c (p + 1 + 1 + 1 + 1 + 1 + 1) N (l ++ [(⟨a, t, y, z, u⟩ : Ar)])) (N, l', p') ∧ p ≤ p' ∧ p' ≤ p + 6 * ((m + 1 : Nat) : Int) ∧ l'.length ≤ 13 ∧ ∀ a ∈ l', DA N a := by
      intro t t0 t1 ht
      rw [e1]
      obtain ⟨l', p', e, h1, h2, h3, h4⟩ := ih (p + 1 + 1 + 1 + 1 + 1 + 1) (l ++ [(⟨a, t, y, z, u⟩ : Ar)]) (by omega) (by omega) (by simp; omega) (by
        intro q hq
        rcases List.mem_append.1 hq with hq | hq
        · exact hs q hq
        · obtain rfl := List.mem_singleton.1 hq
          exact ⟨a0, a1', t0, t1, ht, by show 0 ≤ y; omega, by show y ≤ 99; omega, by show 0 ≤ z; omega, by show z ≤ 8; omega, by show 0 ≤ u; omega, by show u ≤ 9; omega⟩)
      exact ⟨l', p', e, by omega, by omega, h3, h4⟩
    by_cases hab : a = b
    · have et : Int.tmod (wrap64 (b + 1)) N = (b + 1) % N := by rw [w64 (by omega) (by omega), tmod_nn (by omega)]
      obtain ⟨l', p', e, h⟩ := go ((b + 1) % N) (Int.emod_nonneg _ (by omega)) (Int.emod_lt_of_pos _ (by omega)) (by
        rw [hab]
        by_cases hb : b + 1 = N
        · rw [hb, Int.emod_self]; omega
        · rw [Int.emod_eq_of_lt (by omega) (by omega)]; omega)
      refine ⟨l', p', Ev.step (fun k => spec_l30Net.l0.eq_2 _ _ _ _ _ _) (Ev.pos (by omega) (Ev.bnd ea (Ev.bnd eb (Ev.bnd ex (Ev.bnd ey (Ev.bnd ez (Ev.bnd eu (Ev.pos hab (Ev.neg (by omega) (Ev.pos (by omega) ?_)))))))))), h⟩
      rw [et]
      exact e
    · obtain ⟨l', p', e, h⟩ := go b b0 b1' hab
      exact ⟨l', p', Ev.step (fun k => spec_l30Net.l0.eq_2 _ _ _ _ _ _) (Ev.pos (by omega) (Ev.bnd ea (Ev.bnd eb (Ev.bnd ex (Ev.bnd ey (Ev.bnd ez (Ev.bnd eu (Ev.neg hab (Ev.pos (by omega) e))))))))), h⟩
theorem net_ev (c : List Int) (hc : Code c) (p : Int) (hp : 0 ≤ p) (hp1 : p ≤ 800) : ∃ N l p', Ev (fun k => spec_l30Net.f k c p) (N, l, p') ∧ p ≤ p' ∧ p' ≤ p + 80 ∧ l.length ≤ 13 ∧ 2 ≤ N ∧ N ≤ 6 ∧ ∀ a ∈ l, DA N a := by
  obtain ⟨n, en, n0, n1, _⟩ := pick_ev c hc p 5 (by omega) (by omega) (by omega)
  obtain ⟨m, em, m0, m1, _⟩ := pick_ev c hc (p + 1) 14 (by omega) (by omega) (by omega)
  have n1' := n1 (by omega)
  have m1' := m1 (by omega)
  obtain ⟨q, rfl⟩ := Int.eq_ofNat_of_zero_le m0
  obtain ⟨l, p', e, h1, h2, h3, h4⟩ := net_loop c hc (2 + n) (by omega) (by omega) q (p + 1 + 1) [] (by omega) (by omega) (by simp; omega) (by intro a h; cases h)
  refine ⟨2 + n, l, p', ?_, by omega, by omega, h3, by omega, by omega, h4⟩
  unfold spec_l30Net.f
  refine Ev.bnd en (Ev.bnd em ?_)
  rw [w64 (x := 2 + n) (by omega) (by omega)]
  exact e
theorem netP_of_DA {N : Int} {l : List Ar} (h2 : 2 ≤ N) (h6 : N ≤ 6) (hl : l.length ≤ 13) (h : ∀ a ∈ l, DA N a) : netOkB N l = true :=
  ok_of ⟨by omega, by omega, by omega, fun a ha => by obtain ⟨q0, q1, q2, q3, q4, q5, q6, q7, q8, q9, q10⟩ := h a ha; exact ⟨q0, q1, q2, q3, q4, q5, q6, q7, by omega, q9, q10⟩⟩
/-- An arc as l30AnyNet may have changed it. -/
def DB (a : Ar) : Prop := -1 ≤ a.f0 ∧ a.f0 ≤ 8 ∧ -1 ≤ a.f1 ∧ a.f1 ≤ 8 ∧ -1 ≤ a.f2 ∧ a.f2 ≤ 100 ∧ -1 ≤ a.f3 ∧ a.f3 ≤ 100 ∧ -1 ≤ a.f4 ∧ a.f4 ≤ 100
theorem DA.db {N : Int} {a : Ar} (h : DA N a) (h6 : N ≤ 6) : DB a := by
  obtain ⟨q0, q1, q2, q3, q4, q5, q6, q7, q8, q9, q10⟩ := h
  exact ⟨by omega, by omega, by omega, by omega, by omega, by omega, by omega, by omega, by omega, by omega⟩
/-- A net as it is drawn. -/
structure DN (n : Int) (l : List Ar) : Prop where
  n0 : 0 ≤ n
  n9 : n ≤ 9
  len : l.length ≤ 13
  arcs : ∀ a ∈ l, DB a
theorem DN.long {n : Int} {l : List Ar} (h : DN n l) : l.length ≤ 1000000000000 := by have := h.len; omega
theorem anynet_ev (c : List Int) (hc : Code c) (p : Int) (hp : 0 ≤ p) (hp1 : p ≤ 800) : ∃ N l p', Ev (fun k => spec_l30AnyNet.f k c p) (N, l, p') ∧ p ≤ p' ∧ p' ≤ p + 90 ∧ DN N l := by
  obtain ⟨N, l, q, e, q1, q2, hl, h2, h6, ha⟩ := net_ev c hc p hp hp1
  have hb : ∀ a ∈ l, DB a := fun a h => (ha a h).db h6
  have hset : ∀ (i : Nat) (x : Ar), DB x → ∀ a ∈ l.set i x, DB a := fun i x hx a h => by
    rcases List.mem_or_eq_of_mem_set h with h | rfl
    · exact hb a h
    · exact hx
  unfold spec_l30AnyNet.f
  by_cases h0 : (l.length : Int) > 0
  · obtain ⟨k, ek, k0, k1, _⟩ := pick_ev c hc q (l.length : Int) (by omega) (by omega) (by omega)
    obtain ⟨s, es, s0, s1, _⟩ := pick_ev c hc (q + 1) 16 (by omega) (by omega) (by omega)
    have k1' := k1 (by omega)
    have hk : DB (rd_T54 l k) := by
      obtain ⟨i, rfl⟩ := Int.eq_ofNat_of_zero_le k0
      rw [rdA, getDA l i (by omega)]
      exact hb _ (List.getElem_mem _)
    obtain ⟨g0, g1, g2, g3, g4, g5, g6, g7, g8, g9⟩ := hk
    by_cases c0 : s = 0
    · obtain ⟨t, et, ht⟩ := one_ev c hc (q + 1 + 1) [(-1), 8, (rd_T54 l k).f0] (by omega) (by omega) (by simp) (by simp)
      simp only [List.mem_cons, List.not_mem_nil, or_false] at ht
      exact ⟨N, _, _, Ev.bnd e (Ev.pos h0 (Ev.bnd ek (Ev.bnd es (Ev.pos c0 (Ev.pos k0 (Ev.pos k1' (Ev.bnd et (Ev.now _)))))))), by omega, by omega, by omega, by omega, by rw [List.length_set]; exact hl, hset _ _ ⟨g0, g1, by show -1 ≤ t; omega, by show t ≤ 8; omega, g4, g5, g6, g7, g8, g9⟩⟩
    by_cases c1 : s = 1
    · obtain ⟨t, et, ht⟩ := one_ev c hc (q + 1 + 1) [(-1), 100] (by omega) (by omega) (by simp) (by simp)
      simp only [List.mem_cons, List.not_mem_nil, or_false] at ht
      exact ⟨N, _, _, Ev.bnd e (Ev.pos h0 (Ev.bnd ek (Ev.bnd es (Ev.neg c0 (Ev.pos c1 (Ev.bnd et (Ev.pos k0 (Ev.pos k1' (Ev.now _))))))))), by omega, by omega, by omega, by omega, by rw [List.length_set]; exact hl, hset _ _ ⟨g0, g1, g2, g3, by show -1 ≤ t; omega, by show t ≤ 100; omega, g6, g7, g8, g9⟩⟩
    by_cases c2 : s = 2
    · obtain ⟨t, et, ht⟩ := one_ev c hc (q + 1 + 1) [0, 1, 9, 8] (by omega) (by omega) (by simp) (by simp)
      simp only [List.mem_cons, List.not_mem_nil, or_false] at ht
      exact ⟨t, l, _, Ev.bnd e (Ev.pos h0 (Ev.bnd ek (Ev.bnd es (Ev.neg c0 (Ev.neg c1 (Ev.pos c2 (Ev.bnd et (Ev.now _)))))))), by omega, by omega, by omega, by omega, hl, hb⟩
    exact ⟨N, l, _, Ev.bnd e (Ev.pos h0 (Ev.bnd ek (Ev.bnd es (Ev.neg c0 (Ev.neg c1 (Ev.neg c2 (Ev.now _))))))), by omega, by omega, by omega, by omega, hl, hb⟩
  · exact ⟨N, l, q, Ev.bnd e (Ev.neg h0 (Ev.now _)), by omega, by omega, by omega, by omega, hl, hb⟩
end Go.Proofs.YtppjelkljihdoaaDoor.M
