/- For every code: what FnTurnWalk asks holds. No condition beyond those that the statement has. -/
import Derived.Test.YtcfmejfmjjgoaaaPrintF23
import Derived.Test.YtcfmejfmjjgoaaaPrintF26
import Derived.Test.YtcfmejfmjjgoaaaPrintF5
import Derived.Test.YtcfmejfmjjgoaaaY
import Derived.Test.YtcfmejfmjjgoaaaMTurns2
import Derived.Test.YtcfmejfmjjgoaaaMDrawTW
set_option linter.unusedVariables false
namespace Go.Proofs.Ytcfmejfmjjgoaaa.Pure
open Go.RowKit Go.Proofs.Ytcfmejfmjjgoaaa.Print Go.Proofs.YtcfmejfmjjgoaaaW.PrintWords Go.Proofs.YtcfmejfmjjgoaaaW.PrintLast Go.Proofs.YtcfmejfmjjgoaaaY Go.Proofs.Ytcfmejfmjjgoaaa.M
theorem tCost_none (a b : Int) (t : List Tu) (h : ∀ y ∈ t, ¬ (y.f0 = a ∧ y.f1 = b)) : tCost a b t = 0 := by
  induction t with
  | nil => rfl
  | cons x r ih => unfold tCost; rw [if_neg (h x (List.mem_cons_self ..))]; exact ih (fun y hy => h y (List.mem_cons_of_mem _ hy))
theorem tSum_nil (w : List Int) (s : Int) (h0 : -9000000000 ≤ s) (h1 : s ≤ 9000000000) (d : Nat) : ∀ i : Nat, tSum [] w s i d = s := by
  induction d with
  | zero => intro i; rfl
  | succ d ih =>
    intro i
    unfold tSum
    rw [if_neg (by unfold tCost; omega)]
    show tSum [] w (wrap64 (s + 0)) (i + 1) d = s
    rw [Int.add_zero, w64 (by omega) (by omega)]
    exact ih (i + 1)
section
variable (n : Int) (l : List Ar) (t : List Tu) (w : List Int) (c : Int)
/-- Within one pair of the walk's arcs, a forbidden turn met. -/
theorem in_true (ht : t.length ≤ 1000000000) (hw : w.length ≤ 1000000000) (i : Nat) (h1 : 1 ≤ i) (hi : i < w.length) {r : Bool} (h : ∀ s, Ev (fun k => laws_FnTurnWalk.l0 k t w c true s (((i + 1 : Nat)) : Int) n l) r) (d : Nat) :
    ∀ (j : Nat) (s : Int), j ≤ t.length → t.length - j = d → Ev (fun k => laws_FnTurnWalk.l1 k t w c true s (i : Int) (j : Int) n l) r := by
  induction d with
  | zero =>
    intro j s hj hd
    exact Ev.step (fun k => laws_FnTurnWalk.l1.eq_2 _ _ _ _ _ _ _ _ _ _) (Ev.neg (by omega) (by rw [nxt i (by omega)]; exact h s))
  | succ d ih =>
    intro j s hj hd
    refine Ev.step (fun k => laws_FnTurnWalk.l1.eq_2 _ _ _ _ _ _ _ _ _ _) (Ev.pos (by omega) (Ev.pos (by omega) ?_))
    rw [prv i h1 (by omega), nxt j (by omega)]
    refine Ev.pos (by omega) (Ev.pos (by omega) ?_)
    exact Ev.ite (fun _ => Ev.pos (by omega) (Ev.pos (by omega) (Ev.ite (fun _ => Ev.pos rfl (ih (j + 1) _ (by omega) (by omega))) (fun _ => ih (j + 1) _ (by omega) (by omega))))) (fun _ => ih (j + 1) _ (by omega) (by omega))
/-- Within one pair of the walk's arcs. -/
theorem in_false (ht : t.length ≤ 1000000000) (hw : w.length ≤ 1000000000) (hb : ∀ x ∈ t, -1 ≤ x.f2 ∧ x.f2 ≤ 99) (hp : t.Pairwise (fun x y => ¬ (x.f0 = y.f0 ∧ x.f1 = y.f1))) (i : Nat) (h1 : 1 ≤ i) (hi : i < w.length) {r : Bool} (d : Nat) :
    ∀ (j : Nat) (s : Int), j ≤ t.length → t.length - j = d → -1000000 ≤ s → s ≤ 1000000 →
    (tCost (w.getD (i - 1) 0) (w.getD i 0) (t.drop j) < 0 → ∀ s, Ev (fun k => laws_FnTurnWalk.l0 k t w c true s (((i + 1 : Nat)) : Int) n l) r) →
    (¬ tCost (w.getD (i - 1) 0) (w.getD i 0) (t.drop j) < 0 → Ev (fun k => laws_FnTurnWalk.l0 k t w c false (s + tCost (w.getD (i - 1) 0) (w.getD i 0) (t.drop j)) (((i + 1 : Nat)) : Int) n l) r) →
    Ev (fun k => laws_FnTurnWalk.l1 k t w c false s (i : Int) (j : Int) n l) r := by
  induction d with
  | zero =>
    intro j s hj hd _ _ hT hF
    rw [List.drop_eq_nil_of_le (by omega)] at hT hF
    have hF' := hF (by unfold tCost; omega)
    have e : s + tCost (w.getD (i - 1) 0) (w.getD i 0) [] = s := by unfold tCost; omega
    rw [e] at hF'
    exact Ev.step (fun k => laws_FnTurnWalk.l1.eq_2 _ _ _ _ _ _ _ _ _ _) (Ev.neg (by omega) (by rw [nxt i (by omega)]; exact hF'))
  | succ d ih =>
    intro j s hj hd s0 s1 hT hF
    refine Ev.step (fun k => laws_FnTurnWalk.l1.eq_2 _ _ _ _ _ _ _ _ _ _) (Ev.pos (by omega) (Ev.pos (by omega) ?_))
    rw [prv i h1 (by omega), nxt j (by omega), rdI, rdI, rdT]
    rw [dropT t j (by omega)] at hT hF
    refine Ev.pos (by omega) (Ev.pos (by omega) ?_)
    have hx := hb (t.getD j tuz) (by rw [getDT t j (by omega)]; exact List.getElem_mem _)
    have hpj : ∀ y ∈ t.drop (j + 1), ¬ ((t.getD j tuz).f0 = y.f0 ∧ (t.getD j tuz).f1 = y.f1) := by
      have := hp.drop (i := j)
      rw [dropT t j (by omega), List.pairwise_cons] at this
      exact this.1
    have other : ¬ ((t.getD j tuz).f0 = w.getD (i - 1) 0 ∧ (t.getD j tuz).f1 = w.getD i 0) → Ev (fun k => laws_FnTurnWalk.l1 k t w c false s (i : Int) ((j + 1 : Nat) : Int) n l) r := fun hn => by
      have e : tCost (w.getD (i - 1) 0) (w.getD i 0) (t.getD j tuz :: t.drop (j + 1)) = tCost (w.getD (i - 1) 0) (w.getD i 0) (t.drop (j + 1)) := by
        conv => lhs; unfold tCost
        rw [if_neg hn]
      rw [e] at hT hF
      exact ih (j + 1) s (by omega) (by omega) s0 s1 hT hF
    by_cases c0 : (t.getD j tuz).f0 = w.getD (i - 1) 0
    · refine Ev.pos c0 (Ev.pos (by omega) (Ev.pos (by omega) ?_))
      by_cases c1 : (t.getD j tuz).f1 = w.getD i 0
      · refine Ev.pos c1 (Ev.neg (by simp) ?_)
        have e : tCost (w.getD (i - 1) 0) (w.getD i 0) (t.getD j tuz :: t.drop (j + 1)) = (t.getD j tuz).f2 := by
          conv => lhs; unfold tCost
          rw [if_pos ⟨c0, c1⟩]
        have e0 : tCost (w.getD (i - 1) 0) (w.getD i 0) (t.drop (j + 1)) = 0 := tCost_none _ _ _ (fun y hy q => hpj y hy ⟨c0.trans q.1.symm, c1.trans q.2.symm⟩)
        rw [e] at hT hF
        rw [w64 (x := s + (t.getD j tuz).f2) (by omega) (by omega)]
        by_cases c2 : (t.getD j tuz).f2 < 0
        · rw [decide_eq_true c2]
          exact in_true n l t w c ht hw i h1 hi (hT c2) d (j + 1) _ (by omega) (by omega)
        · rw [decide_eq_false c2]
          by_cases c3 : s + (t.getD j tuz).f2 ≤ 1000000
          · exact ih (j + 1) _ (by omega) (by omega) (by omega) c3 (fun z => absurd z (by rw [e0]; omega)) (fun _ => by rw [e0, Int.add_zero]; exact hF c2)
          · -- the rest has no such turn: nothing is added any more
            have rest : ∀ (d : Nat) (q : Nat), j + 1 ≤ q → q ≤ t.length → t.length - q = d → Ev (fun k => laws_FnTurnWalk.l1 k t w c false (s + (t.getD j tuz).f2) (i : Int) (q : Int) n l) r := by
              intro d
              induction d with
              | zero =>
                intro q hq hq2 hd2
                exact Ev.step (fun k => laws_FnTurnWalk.l1.eq_2 _ _ _ _ _ _ _ _ _ _) (Ev.neg (by omega) (by rw [nxt i (by omega)]; exact hF c2))
              | succ d ih2 =>
                intro q hq hq2 hd2
                have hy := hpj (t.getD q tuz) (by
                  rw [getDT t q (by omega), List.mem_drop_iff_getElem]
                  exact ⟨q - (j + 1), by omega, by congr 1; omega⟩)
                refine Ev.step (fun k => laws_FnTurnWalk.l1.eq_2 _ _ _ _ _ _ _ _ _ _) (Ev.pos (by omega) (Ev.pos (by omega) ?_))
                rw [prv i h1 (by omega), nxt q (by omega), rdI, rdI, rdT]
                refine Ev.pos (by omega) (Ev.pos (by omega) ?_)
                exact Ev.ite (fun z0 => Ev.pos (by omega) (Ev.pos (by omega) (Ev.ite (fun z1 => absurd ⟨c0.trans z0.symm, c1.trans z1.symm⟩ hy) (fun _ => ih2 (q + 1) (by omega) (by omega) (by omega))))) (fun _ => ih2 (q + 1) (by omega) (by omega) (by omega))
            exact rest d (j + 1) (by omega) (by omega) (by omega)
      · exact Ev.neg c1 (other (fun z => c1 z.2))
    · exact Ev.neg c0 (other (fun z => c0 z.1))
theorem out_true (ht : t.length ≤ 1000000000) (hw : w.length ≤ 1000000000) (hc : c = -1) (he : Ev (fun k => impl_TurnWalk.f k n l [] w) (costV n l w)) (he2 : Ev (fun k => impl_WalkCost.f k n l w) (costV n l w)) (d : Nat) :
    ∀ (i : Nat) (s : Int), 1 ≤ i → w.length - i = d → Ev (fun k => laws_FnTurnWalk.l0 k t w c true s (i : Int) n l) true := by
  induction d with
  | zero =>
    intro i s h1 hd
    exact Ev.step (fun k => laws_FnTurnWalk.l0.eq_2 _ _ _ _ _ _ _ _ _) (Ev.neg (by omega) (Ev.bnd he (Ev.bnd he2 (Ev.pos rfl (Ev.pos rfl (Ev.pos hc (Ev.now _)))))))
  | succ d ih =>
    intro i s h1 hd
    exact Ev.step (fun k => laws_FnTurnWalk.l0.eq_2 _ _ _ _ _ _ _ _ _) (Ev.pos (by omega) (in_true n l t w c ht hw i h1 (by omega) (fun s' => ih (i + 1) s' (by omega) (by omega)) t.length 0 s (by omega) (by omega)))
theorem out_false (ht : t.length ≤ 1000000000) (hw : w.length ≤ 100) (hb : ∀ x ∈ t, -1 ≤ x.f2 ∧ x.f2 ≤ 99) (hp : t.Pairwise (fun x y => ¬ (x.f0 = y.f0 ∧ x.f1 = y.f1))) (he : Ev (fun k => impl_TurnWalk.f k n l [] w) (costV n l w)) (he2 : Ev (fun k => impl_WalkCost.f k n l w) (costV n l w)) (d : Nat) :
    ∀ (i : Nat) (s : Int), 1 ≤ i → w.length - i = d → 0 ≤ s → s ≤ 100000 + 99 * i → c = tSum t w s i d → Ev (fun k => laws_FnTurnWalk.l0 k t w c false s (i : Int) n l) true := by
  induction d with
  | zero =>
    intro i s h1 hd s0 s1 hc
    refine Ev.step (fun k => laws_FnTurnWalk.l0.eq_2 _ _ _ _ _ _ _ _ _) (Ev.neg (by omega) (Ev.bnd he (Ev.bnd he2 (Ev.pos rfl (Ev.neg (by simp) (Ev.now' ?_))))))
    rw [hc]; unfold tSum; simp
  | succ d ih =>
    intro i s h1 hd s0 s1 hc
    have bd := tCost_bd (w.getD (i - 1) 0) (w.getD i 0) t hb
    refine Ev.step (fun k => laws_FnTurnWalk.l0.eq_2 _ _ _ _ _ _ _ _ _) (Ev.pos (by omega) ?_)
    unfold tSum at hc
    refine in_false n l t w c ht (by omega) hb hp i h1 (by omega) t.length 0 s (by omega) (by omega) (by omega) (by omega) ?_ ?_
    · intro hn s'
      rw [List.drop_zero] at hn
      rw [if_pos hn] at hc
      exact out_true n l t w c ht (by omega) hc he he2 d (i + 1) s' (by omega) (by omega)
    · intro hn
      rw [List.drop_zero] at hn ⊢
      rw [if_neg hn, w64 (by omega) (by omega)] at hc
      exact ih (i + 1) _ (by omega) (by omega) (by omega) (by omega) hc
end
theorem FnTurnWalk : laws_FnTurnWalk.Pure := by
  intro l0 hm hm2 hb
  refine Ev.rounds (g := fun k => laws_FnTurnWalk.f k l0) ?_
  unfold laws_FnTurnWalk.f
  refine Ev.ite (fun _ => Ev.now _) (fun hl => ?_)
  obtain ⟨n, l, t, w, ed, hN, ht, hw⟩ := drawTW_ev l0 hb
  have hlen := hN.len
  have e1 := itw_ev n l t w (by omega) (by omega) (by omega)
  have e2 := stw_ev n l t w (by omega) (by omega) (by omega)
  have bad : Ev (fun k => laws_FnTurnWalk.j0 k t w (twV n l t w) true n l) true := Ev.step (fun k => laws_FnTurnWalk.j0.eq_2 _ _ _ _ _ _ _) (Ev.pos rfl (Ev.bnd e2 (Ev.now' (by simp))))
  refine Ev.bnd ed (Ev.bnd e1 (Ev.bnd e2 (Ev.pos rfl (Ev.bnd (iturns_ev n l t (by omega) (by omega)) ?_))))
  by_cases h1 : turnsB n l t = true
  · refine Ev.pos h1 (Ev.bnd (iwok_ev n l w (by omega) (by omega)) ?_)
    by_cases h2 : walkB n l w = true
    · show Ev (fun k => laws_FnTurnWalk.j0 k t w (twV n l t w) (!walkB n l w) n l) true
      rw [h2]
      obtain ⟨hP, hW⟩ := walkP_of h2
      have hn := turns_net h1
      have hwB : wB l w = true := wB_iff.2 hW
      have ec : costV n l w = costS l w := by unfold costV; rw [if_pos h2]
      have bd := costS_bd hP w (In_drop hW)
      have he2 := icostV_ev n l w (by omega) (by omega)
      have he : Ev (fun k => impl_TurnWalk.f k n l [] w) (costV n l w) := by
        refine Ev.to (itw_ev n l [] w (by omega) (by simp) (by omega)) ?_
        unfold twV
        rw [if_pos ⟨turnsB_nil hn, hwB⟩, tSum_nil w _ (by omega) (by omega), ec]
      have hc : twV n l t w = tSum t w (costS l w) 1 (w.length - 1) := by unfold twV; rw [if_pos ⟨h1, hwB⟩]
      exact Ev.step (fun k => laws_FnTurnWalk.j0.eq_2 _ _ _ _ _ _ _) (Ev.neg (by simp) (Ev.bnd (Ev.to he2 ec) (out_false n l t w _ (by omega) (by omega) (fun x hx => (turns_in h1 x hx).2.2.2.2.2) (turns_once h1) he he2 (w.length - 1) 1 _ (by omega) (by omega) (by omega) (by omega) hc)))
    · show Ev (fun k => laws_FnTurnWalk.j0 k t w (twV n l t w) (!walkB n l w) n l) true
      rw [Bool.eq_false_iff.2 h2]; exact bad
  · exact Ev.neg h1 bad
end Go.Proofs.Ytcfmejfmjjgoaaa.Pure
