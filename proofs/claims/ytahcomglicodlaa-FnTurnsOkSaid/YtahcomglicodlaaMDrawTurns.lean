/- What is drawn as turns. -/
import Derived.Test.YtahcomglicodlaaY
import Derived.Test.YtahcomglicodlaaMDraw
import Derived.Test.YtahcomglicodlaaMNet
import Derived.Test.YtahcomglicodlaaMDrawNet
import Derived.Test.YtahcomglicodlaaMTurns
import Derived.Test.YtahcomglicodlaaPrint0
import Derived.Test.YtahcomglicodlaaPrintF4
import Derived.Test.YtahcomglicodlaaPrintF9
set_option linter.unusedVariables false
set_option linter.unusedSimpArgs false
namespace Go.Proofs.Ytahcomglicodlaa.M
open Go.RowKit Go.Proofs.Ytahcomglicodlaa.Print Go.Proofs.YtahcomglicodlaaW.PrintWords Go.Proofs.YtahcomglicodlaaW.PrintLast Go.Proofs.YtahcomglicodlaaY
theorem dturn_in (c : List Int) (p n : Int) (l : List Ar) (t : List Tu) (ht : t.length ≤ 100) (m a b x0 x1 x2 : Int) {r r' : List Tu × Int}
    (hA : Ev (fun k => spec_l30Turns.l0 k t (wrap64 (m - 1)) c p n l) r) (hB : Ev (fun k => spec_l30Turns.l0 k (t ++ [(⟨x0, x1, x2⟩ : Tu)]) (wrap64 (m - 1)) c p n l) r') (d : Nat) :
    ∀ (j : Nat) (f : Bool), j ≤ t.length → t.length - j = d → ∃ q, (q = r ∨ q = r') ∧ Ev (fun k => spec_l30Turns.l1 k t m a b f (j : Int) c p n l x0 x1 x2) q := by
  induction d with
  | zero =>
    intro j f hj hd
    cases f with
    | true => exact ⟨r, .inl rfl, Ev.step (fun k => spec_l30Turns.l1.eq_2 _ _ _ _ _ _ _ _ _ _ _ _ _ _) (Ev.neg (by omega) (Ev.pos rfl hA))⟩
    | false => exact ⟨r', .inr rfl, Ev.step (fun k => spec_l30Turns.l1.eq_2 _ _ _ _ _ _ _ _ _ _ _ _ _ _) (Ev.neg (by omega) (Ev.neg (by simp) (Ev.pos (by omega) hB)))⟩
  | succ d ih =>
    intro j f hj hd
    cases f with
    | true =>
      obtain ⟨q, hq, e⟩ := ih (j + 1) true (by omega) (by omega)
      exact ⟨q, hq, Ev.step (fun k => spec_l30Turns.l1.eq_2 _ _ _ _ _ _ _ _ _ _ _ _ _ _) (Ev.pos (by omega) (Ev.pos rfl (by rw [nxt j (by omega)]; exact e)))⟩
    | false =>
      by_cases c0 : (rd_T31 t (j : Int)).f0 = a
      · obtain ⟨q, hq, e⟩ := ih (j + 1) ((rd_T31 t (j : Int)).f1 == b) (by omega) (by omega)
        exact ⟨q, hq, Ev.step (fun k => spec_l30Turns.l1.eq_2 _ _ _ _ _ _ _ _ _ _ _ _ _ _) (Ev.pos (by omega) (Ev.neg (by simp) (Ev.pos (by omega) (Ev.pos c0 (by rw [nxt j (by omega)]; exact e)))))⟩
      · obtain ⟨q, hq, e⟩ := ih (j + 1) false (by omega) (by omega)
        exact ⟨q, hq, Ev.step (fun k => spec_l30Turns.l1.eq_2 _ _ _ _ _ _ _ _ _ _ _ _ _ _) (Ev.pos (by omega) (Ev.neg (by simp) (Ev.pos (by omega) (Ev.neg c0 (by rw [nxt j (by omega)]; exact e)))))⟩
/-- Behind the last turn: there may be a wrong one. -/
theorem dturn_end (c : List Int) (hc : Code c) (n : Int) (l : List Ar) (t : List Tu) (ht : t.length ≤ 100) (m p : Int) (hp : 0 ≤ p) (hp1 : p ≤ 10000) :
    ∃ t' p', Ev (fun k => spec_l30Turns.j1 k t m false c p n l) (t', p') ∧ p ≤ p' ∧ p' ≤ p + 4 ∧ t'.length ≤ t.length + 1 := by
  obtain ⟨v, ev, v0, v1, _⟩ := pick_ev c hc p 14 (by omega) (by omega) (by omega)
  by_cases c0 : v = 0
  · obtain ⟨a, ea, _⟩ := pick_ev c hc (p + 1) 3 (by omega) (by omega) (by omega)
    obtain ⟨b, eb, _⟩ := pick_ev c hc (p + 1 + 1) 3 (by omega) (by omega) (by omega)
    obtain ⟨x, ex, _⟩ := one_ev c hc (p + 1 + 1 + 1) [(-2), 100, 1] (by omega) (by omega) (by simp) (by simp)
    exact ⟨_, _, Ev.step (fun k => spec_l30Turns.j1.eq_2 _ _ _ _ _ _ _ _) (Ev.neg (by simp) (Ev.bnd ev (Ev.pos c0 (Ev.bnd ea (Ev.bnd eb (Ev.bnd ex (Ev.pos (by omega) (Ev.now _)))))))), by omega, by omega, by simp⟩
  · exact ⟨t, p + 1, Ev.step (fun k => spec_l30Turns.j1.eq_2 _ _ _ _ _ _ _ _) (Ev.neg (by simp) (Ev.bnd ev (Ev.neg c0 (Ev.now _)))), by omega, by omega, by omega⟩
theorem dturns_loop (c : List Int) (hc : Code c) (n : Int) (l : List Ar) (hl : l.length ≤ 1000) (m : Nat) : ∀ (p : Int) (t : List Tu), 0 ≤ p → p + 3 * m + 4 ≤ 10000 → t.length + m ≤ 20 →
    ∃ t' p', Ev (fun k => spec_l30Turns.l0 k t (m : Int) c p n l) (t', p') ∧ p ≤ p' ∧ p' ≤ p + 3 * m + 4 ∧ t'.length ≤ 21 := by
  induction m with
  | zero =>
    intro p t hp hp1 hl'
    obtain ⟨t', p', e, h1, h2, h3⟩ := dturn_end c hc n l t (by omega) ((0 : Nat) : Int) p hp (by omega)
    exact ⟨t', p', Ev.step (fun k => spec_l30Turns.l0.eq_2 _ _ _ _ _ _ _) (Ev.neg (by omega) e), h1, by omega, by omega⟩
  | succ m ih =>
    intro p t hp hp1 hl'
    by_cases h0 : 0 < l.length
    · obtain ⟨a, ea, a0, a1, _⟩ := pick_ev c hc p (l.length : Int) (by omega) (by omega) (by omega)
      obtain ⟨b, eb, b0, b1, _⟩ := pick_ev c hc (p + 1) (l.length : Int) (by omega) (by omega) (by omega)
      have a1' := a1 (by omega)
      have b1' := b1 (by omega)
      have em : wrap64 (((m + 1 : Nat) : Int) - 1) = (m : Int) := by rw [w64 (by omega) (by omega)]; omega
      by_cases c0 : (rd_T33 l a).f1 = (rd_T33 l b).f0
      · obtain ⟨x, ex, _⟩ := one_ev c hc (p + 1 + 1) [(-1), (-1), 0, 3, 9] (by omega) (by omega) (by simp) (by simp)
        obtain ⟨ta, pa, eA, qa1, qa2, qa3⟩ := ih (p + 1 + 1 + 1) t (by omega) (by omega) (by omega)
        obtain ⟨tb, pb, eB, qb1, qb2, qb3⟩ := ih (p + 1 + 1 + 1) (t ++ [(⟨a, b, x⟩ : Tu)]) (by omega) (by omega) (by simp; omega)
        obtain ⟨q, hq, e⟩ := dturn_in c (p + 1 + 1 + 1) n l t (by omega) ((m + 1 : Nat) : Int) a b a b x (by rw [em]; exact eA) (by rw [em]; exact eB) t.length 0 false (by omega) (by omega)
        refine ⟨q.1, q.2, Ev.step (fun k => spec_l30Turns.l0.eq_2 _ _ _ _ _ _ _) (Ev.pos (by omega) (Ev.step (fun k => spec_l30Turns.j1.eq_2 _ _ _ _ _ _ _ _) (Ev.pos (by simpa using h0) (Ev.bnd ea (Ev.bnd eb (Ev.pos a0 (Ev.pos a1' (Ev.pos b0 (Ev.pos b1' (Ev.pos c0 (Ev.bnd ex e))))))))))), ?_⟩
        rcases hq with rfl | rfl
        · exact ⟨by show p ≤ pa; omega, by show pa ≤ _; omega, qa3⟩
        · exact ⟨by show p ≤ pb; omega, by show pb ≤ _; omega, qb3⟩
      · obtain ⟨ta, pa, eA, qa1, qa2, qa3⟩ := ih (p + 1 + 1) t (by omega) (by omega) (by omega)
        exact ⟨ta, pa, Ev.step (fun k => spec_l30Turns.l0.eq_2 _ _ _ _ _ _ _) (Ev.pos (by omega) (Ev.step (fun k => spec_l30Turns.j1.eq_2 _ _ _ _ _ _ _ _) (Ev.pos (by simpa using h0) (Ev.bnd ea (Ev.bnd eb (Ev.pos a0 (Ev.pos a1' (Ev.pos b0 (Ev.pos b1' (Ev.neg c0 (by rw [em]; exact eA)))))))))))
          , by omega, by omega, qa3⟩
    · obtain ⟨t', p', e, h1, h2, h3⟩ := dturn_end c hc n l t (by omega) ((m + 1 : Nat) : Int) p hp (by omega)
      refine ⟨t', p', Ev.step (fun k => spec_l30Turns.l0.eq_2 _ _ _ _ _ _ _) (Ev.pos (by omega) ?_), h1, by omega, by omega⟩
      rw [decide_eq_false (show ¬ (l.length : Int) > 0 by omega)]
      exact e
theorem dturns_ev (c : List Int) (hc : Code c) (p : Int) (n : Int) (l : List Ar) (hl : l.length ≤ 1000) (hp : 0 ≤ p) (hp1 : p ≤ 2000) :
    ∃ t p', Ev (fun k => spec_l30Turns.f k c p n l) (t, p') ∧ p ≤ p' ∧ p' ≤ p + 40 ∧ t.length ≤ 21 := by
  obtain ⟨m, em, m0, m1, _⟩ := pick_ev c hc p 9 (by omega) (by omega) (by omega)
  have m1' := m1 (by omega)
  obtain ⟨m', rfl⟩ := Int.eq_ofNat_of_zero_le m0
  obtain ⟨t', p', e, h1, h2, h3⟩ := dturns_loop c hc n l hl m' (p + 1) [] (by omega) (by omega) (by simp; omega)
  unfold spec_l30Turns.f
  exact ⟨t', p', Ev.bnd em e, by omega, by omega, h3⟩
theorem drawTO_ev (l0 : List Int) (hb : ∀ x ∈ l0, (Lit.int .u8 x).wf = true) : ∃ n l t, Ev (fun k => spec_DrawTurnsOk.f k l0) (n, l, t) ∧ DN n l ∧ t.length ≤ 21 := by
  obtain ⟨c, ec, hc⟩ := open_eq l0 hb
  obtain ⟨n, l, p, en, p0, p1, hN⟩ := anynet_ev c hc 0 (by omega) (by omega)
  have hlen := hN.len
  obtain ⟨t, q, et, q0, q1, ht⟩ := dturns_ev c hc p n l (by omega) (by omega) (by omega)
  refine ⟨n, l, t, ?_, hN, ht⟩
  unfold spec_DrawTurnsOk.f
  exact Ev.bnd0 ec (Ev.bnd en (Ev.bnd et (Ev.now _)))
end Go.Proofs.Ytahcomglicodlaa.M
