/- Steps in order (the reference's l5Tidy), and what the stairs' drawing functions draw. -/
import Derived.Test.YtfpfaaibgaejjaaY
import Derived.Test.YtfpfaaibgaejjaaMDraw
import Derived.Test.YtfpfaaibgaejjaaMStair
import Derived.Test.YtfpfaaibgaejjaaPrintF34
import Derived.Test.YtfpfaaibgaejjaaPrintF42
import Derived.Test.YtfpfaaibgaejjaaPrintF46
import Derived.Test.YtfpfaaibgaejjaaPrintF57
set_option linter.unusedVariables false
set_option linter.unusedSimpArgs false
namespace Go.Proofs.Ytfpfaaibgaejjaa.M
open Go.RowKit Go.Proofs.Ytfpfaaibgaejjaa.Print Go.Proofs.YtfpfaaibgaejjaaW.PrintWords Go.Proofs.YtfpfaaibgaejjaaW.PrintLast Go.Proofs.YtfpfaaibgaejjaaY
/-- The earliest coming of those that go no earlier than a. -/
def bstFrom (a : Int) : Int → List St → Int
  | b, [] => b
  | b, x :: t => bstFrom a (if x.f0 ≥ a ∧ x.f1 < b then x.f1 else b) t
def bst (a : Int) (l : List St) : Int := bstFrom a 99999 l
def lastC (out : List St) : Int := (out.getD (out.length - 1) stz).f1
def tid (l : List St) : Nat → List St → Int → List St
  | 0, out, _ => out
  | n + 1, out, a => if bst a l = 99999 then out else if 0 < out.length ∧ lastC out = bst a l then tid l n (out.set (out.length - 1) ⟨a, bst a l⟩) (a + 1) else tid l n (out ++ [⟨a, bst a l⟩]) (a + 1)
theorem tid_len (l : List St) (n : Nat) : ∀ (out : List St) (a : Int), (tid l n out a).length ≤ out.length + n := by
  induction n with
  | zero => intro out a; exact Nat.le_refl _
  | succ n ih =>
    intro out a
    unfold tid
    split
    · omega
    · split
      · have := ih (out.set (out.length - 1) ⟨a, bst a l⟩) (a + 1); rw [List.length_set] at this; omega
      · have := ih (out ++ [⟨a, bst a l⟩]) (a + 1); rw [List.length_append, List.length_singleton] at this; omega
theorem tid_stop (l : List St) (n : Nat) (out : List St) (a : Int) (c : bst a l = 99999) : tid l (n + 1) out a = out := by unfold tid; rw [if_pos c]
theorem tid_low (l : List St) (n : Nat) (out : List St) (a : Int) (c : ¬ bst a l = 99999) (h : 0 < out.length ∧ lastC out = bst a l) : tid l (n + 1) out a = tid l n (out.set (out.length - 1) ⟨a, bst a l⟩) (a + 1) := by
  rw [tid, if_neg c, if_pos h]
theorem tid_new (l : List St) (n : Nat) (out : List St) (a : Int) (c : ¬ bst a l = 99999) (h : ¬ (0 < out.length ∧ lastC out = bst a l)) : tid l (n + 1) out a = tid l n (out ++ [⟨a, bst a l⟩]) (a + 1) := by
  rw [tid, if_neg c, if_neg h]
theorem tidy_at (l : List St) (hl : l.length ≤ 1000000000000) (n : Nat) (out : List St) (a : Int) (h0 : 0 ≤ a) (h1 : a ≤ 199) (h2 : out.length ≤ 200)
    (ih : ∀ o : List St, o.length ≤ out.length + 1 → Ev (fun k => spec_l5Tidy.l0 k l o (a + 1)) (tid l n o (a + 1))) (d : Nat) : ∀ (i : Nat) (b : Int), i ≤ l.length → l.length - i = d → bstFrom a b (l.drop i) = bst a l → Ev (fun k => spec_l5Tidy.l1 k l out a b (i : Int)) (tid l (n + 1) out a) := by
  have hwa : wrap64 (a + 1) = a + 1 := w64 (by omega) (by omega)
  induction d with
  | zero =>
    intro i b hi hd hb
    rw [List.drop_eq_nil_of_le (by omega)] at hb
    have hb' : b = bst a l := hb
    subst hb'
    refine Ev.step (fun k => spec_l5Tidy.l1.eq_2 _ _ _ _ _ _) (Ev.neg (by omega) ?_)
    by_cases c : bst a l = 99999
    · rw [tid_stop l n out a c]; exact Ev.pos c (Ev.now _)
    · refine Ev.neg c ?_
      rw [hwa]
      by_cases c0 : 0 < out.length
      · have e1 : wrap64 ((out.length : Int) - 1) = ((out.length - 1 : Nat) : Int) := by rw [w64 (by omega) (by omega)]; omega
        refine Ev.pos (by omega) ?_
        rw [e1, rdn]
        refine Ev.pos (by omega) (Ev.pos (by omega) ?_)
        by_cases c1 : lastC out = bst a l
        · rw [tid_low l n out a c ⟨c0, c1⟩]
          refine Ev.pos c1 ?_
          rw [Int.toNat_natCast, show (out.getD (out.length - 1) stz).f1 = bst a l from c1]
          exact ih _ (by rw [List.length_set]; omega)
        · rw [tid_new l n out a c (fun h => c1 h.2)]
          refine Ev.neg c1 (Ev.pos (by omega) ?_)
          exact ih _ (by rw [List.length_append, List.length_singleton]; omega)
      · rw [tid_new l n out a c (fun h => c0 h.1)]
        refine Ev.neg (by omega) (Ev.pos (by omega) ?_)
        exact ih _ (by rw [List.length_append, List.length_singleton]; omega)
  | succ d ih2 =>
    intro i b hi hd hb
    have hw : wrap64 ((i : Int) + 1) = ((i + 1 : Nat) : Int) := by rw [w64 (by omega) (by omega)]; omega
    rw [drop_cons l i (by omega)] at hb
    unfold bstFrom at hb
    refine Ev.step (fun k => spec_l5Tidy.l1.eq_2 _ _ _ _ _ _) (Ev.pos (by omega) (Ev.pos (by omega) ?_))
    rw [rdn, hw]
    by_cases c1 : (l.getD i stz).f0 ≥ a
    · refine Ev.pos c1 ?_
      by_cases c2 : (l.getD i stz).f1 < b
      · rw [if_pos ⟨c1, c2⟩] at hb
        exact Ev.pos c2 (ih2 (i + 1) _ (by omega) (by omega) hb)
      · rw [if_neg (fun h => c2 h.2)] at hb
        exact Ev.neg c2 (ih2 (i + 1) _ (by omega) (by omega) hb)
    · rw [if_neg (fun h => c1 h.1)] at hb
      exact Ev.neg c1 (ih2 (i + 1) _ (by omega) (by omega) hb)
theorem tidy_from (l : List St) (hl : l.length ≤ 1000000000000) (n : Nat) : ∀ (out : List St) (a : Int), 0 ≤ a → a + n = 200 → out.length + n ≤ 200 → Ev (fun k => spec_l5Tidy.l0 k l out a) (tid l n out a) := by
  induction n with
  | zero =>
    intro out a h0 h1 h2
    exact Ev.step (fun k => spec_l5Tidy.l0.eq_2 _ _ _ _) (Ev.neg (by omega) (Ev.now _))
  | succ n ih =>
    intro out a h0 h1 h2
    refine Ev.step (fun k => spec_l5Tidy.l0.eq_2 _ _ _ _) (Ev.pos (by omega) ?_)
    have h := tidy_at l hl n out a h0 (by omega) (by omega) (fun o ho => ih o (a + 1) (by omega) (by omega) (by omega)) l.length 0 99999 (by omega) (by omega) (by rw [List.drop_zero]; rfl)
    rw [show ((0 : Nat) : Int) = 0 from rfl] at h
    exact h
def tidied (l : List St) : List St := tid l 200 [] 0
theorem tidied_len (l : List St) : (tidied l).length ≤ 200 := by have := tid_len l 200 [] 0; rw [List.length_nil, Nat.zero_add] at this; exact this
theorem tidy_ev (l : List St) (hl : l.length ≤ 1000000000000) : Ev (fun k => spec_l5Tidy.f k l) (tidied l) := by
  unfold spec_l5Tidy.f tidied
  exact tidy_from l hl 200 [] 0 (by omega) (by omega) (by rw [List.length_nil]; omega)
theorem steps_loop (l : List Int) (hl : Code l) (m : Nat) : ∀ (out : List St) (p : Int), 0 ≤ p → p ≤ 900000 - 2 * m → out.length ≤ 1000 - m → m ≤ 100 → (∀ x ∈ out, Val x) →
    ∃ out' p', Ev (fun k => spec_l30Steps.l0 k out (m : Int) l p) (out', p') ∧ out'.length ≤ out.length + m ∧ (∀ x ∈ out', Val x) ∧ p ≤ p' ∧ p' ≤ p + 2 * m := by
  induction m with
  | zero =>
    intro out p h0 h1 h2 h3 h4
    exact ⟨out, p, Ev.step (fun k => spec_l30Steps.l0.eq_2 _ _ _ _ _) (Ev.neg (by omega) (Ev.now _)), by omega, h4, by omega, by omega⟩
  | succ m ih =>
    intro out p h0 h1 h2 h3 h4
    obtain ⟨g, hg, g0, g1, _⟩ := pick_ev l hl p 60 h0 (by omega) (by omega)
    obtain ⟨c, hc, c0, c1, _⟩ := pick_ev l hl (p + 1) 40 (by omega) (by omega) (by omega)
    have g2 := g1 (by omega)
    have c2 := c1 (by omega)
    obtain ⟨o, q, ho, hn, hv, q0, q1⟩ := ih (out ++ [⟨g, g + c⟩]) (p + 1 + 1) (by omega) (by omega) (by rw [List.length_append, List.length_singleton]; omega) (by omega) (by
      intro x hx
      rcases List.mem_append.1 hx with hx | hx
      · exact h4 x hx
      · rw [List.mem_singleton] at hx
        subst hx
        exact ⟨g0, by show g ≤ 199; omega, by show g ≤ g + c; omega, by show g + c ≤ 199; omega⟩)
    refine ⟨o, q, Ev.step (fun k => spec_l30Steps.l0.eq_2 _ _ _ _ _) (Ev.pos (by omega) (Ev.bnd hg (Ev.bnd hc (Ev.pos (by omega) ?_)))), by rw [List.length_append, List.length_singleton] at hn; omega, hv, by omega, by omega⟩
    rw [w64 (x := g + c) (by omega) (by omega), w64 (x := ((m + 1 : Nat) : Int) - 1) (by omega) (by omega), show ((m + 1 : Nat) : Int) - 1 = (m : Int) by omega]
    exact ho
theorem steps_ev (l : List Int) (hl : Code l) (p : Int) (most : Nat) (h0 : 0 ≤ p) (h1 : p ≤ 800000) (hm : most ≤ 100) :
    ∃ out p', Ev (fun k => spec_l30Steps.f k l p (most : Int)) (out, p') ∧ out.length ≤ most ∧ (∀ x ∈ out, Val x) ∧ p ≤ p' ∧ p' ≤ p + 1 + 2 * most := by
  obtain ⟨m, hm1, m0, m1, _⟩ := pick_ev l hl p ((most : Int) + 1) h0 (by omega) (by omega)
  have m2 := m1 (by omega)
  obtain ⟨n, rfl⟩ := Int.eq_ofNat_of_zero_le m0
  obtain ⟨o, q, ho, hn, hv, q0, q1⟩ := steps_loop l hl n [] (p + 1) (by omega) (by omega) (by simp) (by omega) (by simp)
  refine ⟨o, q, ?_, by simp at hn; omega, hv, by omega, by omega⟩
  unfold spec_l30Steps.f
  rw [w64 (x := (most : Int) + 1) (by omega) (by omega)]
  exact Ev.bnd hm1 ho
theorem stair_ev (l : List Int) (hl : Code l) (p : Int) (h0 : 0 ≤ p) (h1 : p ≤ 800000) :
    ∃ out p', Ev (fun k => spec_l30Stair.f k l p) (out, p') ∧ out.length ≤ 200 ∧ p ≤ p' ∧ p' ≤ p + 17 := by
  obtain ⟨o, q, ho, hn, hv, q0, q1⟩ := steps_ev l hl p 8 h0 h1 (by omega)
  refine ⟨tidied o, q, ?_, tidied_len o, by omega, by omega⟩
  unfold spec_l30Stair.f
  exact Ev.bnd ho (Ev.bnd (tidy_ev o (by omega)) (Ev.now _))
theorem anyStair_ev (l : List Int) (hl : Code l) (p : Int) (h0 : 0 ≤ p) (h1 : p ≤ 700000) :
    ∃ out p', Ev (fun k => spec_l30AnyStair.f k l p) (out, p') ∧ out.length ≤ 201 ∧ p ≤ p' ∧ p' ≤ p + 30 := by
  obtain ⟨o, q, ho, hn, q0, q1⟩ := stair_ev l hl p h0 (by omega)
  obtain ⟨r, hr, r0, r1, _⟩ := pick_ev l hl q 12 (by omega) (by omega) (by omega)
  by_cases c : r = 0
  · obtain ⟨g, hg, _⟩ := one_ev l hl (q + 1) [(-1), 5, 200] (by omega) (by omega) (by simp) (by simp)
    obtain ⟨s, hs, s0, s1, _⟩ := pick_ev l hl (q + 1 + 1) 210 (by omega) (by omega) (by omega)
    refine ⟨o ++ [⟨g, s⟩], q + 1 + 1 + 1, ?_, by rw [List.length_append, List.length_singleton]; omega, by omega, by omega⟩
    unfold spec_l30AnyStair.f
    exact Ev.bnd ho (Ev.bnd hr (Ev.pos c (Ev.bnd hg (Ev.bnd hs (Ev.pos (by show o.length < _; omega) (Ev.now _))))))
  · refine ⟨o, q + 1, ?_, by omega, by omega, by omega⟩
    unfold spec_l30AnyStair.f
    exact Ev.bnd ho (Ev.bnd hr (Ev.neg c (Ev.now _)))
end Go.Proofs.Ytfpfaaibgaejjaa.M
