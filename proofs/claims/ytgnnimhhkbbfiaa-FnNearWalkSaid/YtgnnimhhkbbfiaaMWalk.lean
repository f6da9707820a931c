/- Walks: when they are ok, what they cost, their nodes. -/
import Derived.Test.YtgnnimhhkbbfiaaY
import Derived.Test.YtgnnimhhkbbfiaaMNet
import Derived.Test.YtgnnimhhkbbfiaaMInts
import Derived.Test.YtgnnimhhkbbfiaaPrint0
import Derived.Test.YtgnnimhhkbbfiaaPrintF20
import Derived.Test.YtgnnimhhkbbfiaaPrintF27
set_option linter.unusedVariables false
set_option linter.unusedSimpArgs false
namespace Go.Proofs.Ytgnnimhhkbbfiaa.M
open Go.RowKit Go.Proofs.Ytgnnimhhkbbfiaa.Print Go.Proofs.YtgnnimhhkbbfiaaW.PrintWords Go.Proofs.YtgnnimhhkbbfiaaW.PrintLast Go.Proofs.YtgnnimhhkbbfiaaY
/-- Arc number k. -/
def arc (l : List Ar) (k : Int) : Ar := l.getD k.toNat arz
theorem rdArc (l : List Ar) (k : Int) : rd_T47 l k = arc l k := rfl
def In (l : List Ar) (k : Int) : Prop := 0 ≤ k ∧ k < (l.length : Int)
def GoodW (l : List Ar) (w : List Int) (i : Nat) : Prop := In l (w.getD i 0) ∧ (0 < i → (arc l (w.getD (i - 1) 0)).f1 = (arc l (w.getD i 0)).f0)
/-- Arcs that are a walk. -/
def WalkP (l : List Ar) (w : List Int) : Prop := (∀ i, i < w.length → GoodW l w i) ∧ w.length ≤ 20
open Classical in
noncomputable def wB (l : List Ar) (w : List Int) : Bool := decide (WalkP l w)
open Classical in
theorem wB_iff {l : List Ar} {w : List Int} : wB l w = true ↔ WalkP l w := by unfold wB; exact decide_eq_true_iff
theorem wB_of {l : List Ar} {w : List Int} {r : Bool} (h : r = true ↔ WalkP l w) : r = wB l w := by rw [Bool.eq_iff_iff, h, wB_iff]
theorem within_In (l : List Ar) (hl : l.length ≤ 1000000000000) (k : Int) : decide (0 ≤ k ∧ k ≤ wrap64 ((l.length : Int) - 1)) = decide (0 ≤ k ∧ k < (l.length : Int)) := by
  rw [w64 (x := (l.length : Int) - 1) (by omega) (by omega)]
  exact decide_eq_decide.2 (by omega)
theorem iwok_loop (n : Int) (l : List Ar) (w : List Int) (hl : l.length ≤ 1000000000000) (hw : w.length ≤ 1000000000000) (d : Nat) : ∀ i : Nat, i ≤ w.length → w.length - i = d → (∀ j, j < i → GoodW l w j) →
    ∃ r, Ev (fun k => impl_WalkOk.l0 k w w (w.length : Int) (i : Int) n l) r ∧ (r = true ↔ ∀ j, j < w.length → GoodW l w j) := by
  induction d with
  | zero =>
    intro i hi hd hg
    exact ⟨true, Ev.step (fun k => impl_WalkOk.l0.eq_2 _ _ _ _ _ _ _) (Ev.neg (by omega) (Ev.now _)), by simp; exact fun j hj => hg j (by omega)⟩
  | succ d ih =>
    intro i hi hd hg
    have bad : ∀ {q : Nat → Option Bool}, ¬ GoodW l w i → Ev q false → ∃ r, Ev q r ∧ (r = true ↔ ∀ j, j < w.length → GoodW l w j) := fun hb hq => ⟨false, hq, by simp; exact ⟨i, by omega, hb⟩⟩
    have next : GoodW l w i → ∃ r, Ev (fun k => impl_WalkOk.l0 k w w (w.length : Int) ((i + 1 : Nat) : Int) n l) r ∧ (r = true ↔ ∀ j, j < w.length → GoodW l w j) := fun hgi => ih (i + 1) (by omega) (by omega) (fun j hj => by
      rcases Nat.lt_or_ge j i with h | h
      · exact hg j h
      · obtain rfl : j = i := by omega
        exact hgi)
    by_cases c1 : In l (w.getD i 0)
    · by_cases c0 : 0 < i
      · have hp := (hg (i - 1) (by omega)).1
        have e1 : wrap64 ((i : Int) - 1) = ((i - 1 : Nat) : Int) := by rw [w64 (by omega) (by omega)]; omega
        have hgo : ∀ {q : Nat → Option Bool} {r : Bool}, Ev (fun k => if (arc l (w.getD (i - 1) 0)).f1 = (arc l (w.getD i 0)).f0 then impl_WalkOk.l0 k w w (w.length : Int) ((i + 1 : Nat) : Int) n l else some false) r → Ev (fun k => impl_WalkOk.l0 k w w (w.length : Int) (i : Int) n l) r := by
          intro q r h
          refine Ev.step (fun k => impl_WalkOk.l0.eq_2 _ _ _ _ _ _ _) (Ev.pos (by omega) (Ev.pos (by omega) (Ev.pos (by omega) (Ev.bnd0 (n_within _ _ _) ?_))))
          rw [rdI, within_In l hl, decide_eq_true (show 0 ≤ w.getD i 0 ∧ w.getD i 0 < (l.length : Int) from c1), e1, rdI, nxt i (by omega)]
          exact Ev.pos rfl (Ev.pos (by omega) (Ev.pos (by omega) (Ev.pos (by omega) (Ev.pos hp.1 (Ev.pos hp.2 (Ev.pos c1.1 (Ev.pos c1.2 h)))))))
        by_cases c2 : (arc l (w.getD (i - 1) 0)).f1 = (arc l (w.getD i 0)).f0
        · obtain ⟨r, hr, h⟩ := next ⟨c1, fun _ => c2⟩
          exact ⟨r, hgo (q := fun _ => none) (Ev.pos c2 hr), h⟩
        · exact bad (fun h => c2 (h.2 c0)) (hgo (q := fun _ => none) (Ev.neg c2 (Ev.now _)))
      · obtain ⟨r, hr, h⟩ := next ⟨c1, fun h => absurd h c0⟩
        refine ⟨r, Ev.step (fun k => impl_WalkOk.l0.eq_2 _ _ _ _ _ _ _) (Ev.pos (by omega) (Ev.pos (by omega) (Ev.pos (by omega) (Ev.bnd0 (n_within _ _ _) ?_)))), h⟩
        rw [rdI, within_In l hl, decide_eq_true (show 0 ≤ w.getD i 0 ∧ w.getD i 0 < (l.length : Int) from c1), nxt i (by omega)]
        exact Ev.pos rfl (Ev.neg (by omega) hr)
    · refine bad (fun h => c1 h.1) (Ev.step (fun k => impl_WalkOk.l0.eq_2 _ _ _ _ _ _ _) (Ev.pos (by omega) (Ev.pos (by omega) (Ev.pos (by omega) (Ev.bnd0 (n_within _ _ _) ?_)))))
      rw [rdI, within_In l hl, decide_eq_false (show ¬ (0 ≤ w.getD i 0 ∧ w.getD i 0 < (l.length : Int)) from c1)]
      exact Ev.neg (by simp) (Ev.now _)
noncomputable def walkB (n : Int) (l : List Ar) (w : List Int) : Bool := netOkB n l && wB l w
theorem iwok_ev (n : Int) (l : List Ar) (w : List Int) (hl : l.length ≤ 1000000000000) (hw : w.length ≤ 1000000000000) : Ev (fun k => impl_WalkOk.f k n l w) (walkB n l w) := by
  unfold impl_WalkOk.f walkB
  have no : Ev (fun k => impl_WalkOk.j0 k w true n l) false := Ev.step (fun k => impl_WalkOk.j0.eq_2 _ _ _ _ _) (Ev.pos rfl (Ev.now _))
  refine Ev.bnd0 (a := netOkB n l) rfl ?_
  cases hn : netOkB n l with
  | false => exact Ev.neg (by simp) no
  | true =>
    refine Ev.pos rfl ?_
    rw [Bool.true_and]
    by_cases c : (w.length : Int) > 20
    · rw [decide_eq_true c]
      have : wB l w = false := by
        rw [Bool.eq_false_iff]; intro h; have := (wB_iff.1 h).2; omega
      rw [this]; exact no
    · rw [decide_eq_false c]
      obtain ⟨r, hr, h⟩ := iwok_loop n l w hl hw w.length 0 (by omega) (by omega) (fun j hj => absurd hj (Nat.not_lt_zero _))
      have e : r = wB l w := wB_of (h.trans ⟨fun h => ⟨h, by omega⟩, fun h => h.1⟩)
      rw [← e]
      exact Ev.step (fun k => impl_WalkOk.j0.eq_2 _ _ _ _ _) (Ev.neg (by simp) hr)
end Go.Proofs.Ytgnnimhhkbbfiaa.M
