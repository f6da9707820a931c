/- The best way can be gone, comes to no node twice, and costs what is told. -/
import Derived.Test.YtgnnimhhkbbfiaaY
import Derived.Test.YtgnnimhhkbbfiaaMNear7
import Derived.Test.YtgnnimhhkbbfiaaMWalk
import Derived.Test.YtgnnimhhkbbfiaaMWalk2
import Derived.Test.YtgnnimhhkbbfiaaMPlainW

set_option linter.unusedVariables false
set_option linter.unusedSimpArgs false
namespace Go.Proofs.Ytgnnimhhkbbfiaa.M
open Go.RowKit Go.Proofs.Ytgnnimhhkbbfiaa.Print Go.Proofs.YtgnnimhhkbbfiaaW.PrintWords Go.Proofs.YtgnnimhhkbbfiaaW.PrintLast Go.Proofs.YtgnnimhhkbbfiaaY
def wnode (l : List Ar) (v : Int) (w : List Int) : Nat → Int
  | 0 => v
  | i + 1 => (arc l (w.getD i 0)).f1
theorem wnode_cons (l : List Ar) (v j : Int) (w : List Int) (i : Nat) : wnode l v (j :: w) (i + 1) = wnode l (arc l j).f1 w i := by
  cases i <;> rfl
structure WayP (l : List Ar) (M : List Me) (t v : Int) (w : List Int) : Prop where
  inn : ∀ i, i < w.length → In l (w.getD i 0) ∧ (arc l (w.getD i 0)).f0 = wnode l v w i
  fin : wnode l v w w.length = t
  cnt : ∀ i, i ≤ w.length → (atM M (wnode l v w i)).f1 = (w.length : Int) - i
  cst : costS l w = (atM M v).f0
theorem way_facts {n : Int} {l : List Ar} (hN : NetP n l) {t : Int} {M : List Me} (h : Best n l t M) (m : Nat) : ∀ v : Int, 0 ≤ v → v < n → (atM M v).f0 ≠ 99999 → (atM M v).f1 = m → WayP l M t v (way M l v) := by
  induction m with
  | zero =>
    intro v h0 h1 hf hm
    have e : v = t := by
      refine Decidable.byContradiction (fun e => ?_)
      obtain ⟨j, j1, j2, j3, j4, j5, j6, _⟩ := fnd_spec hN h h0 h1 e hf
      have g := hN.arc _ (show l.getD j arz ∈ l by rw [getDA l j j1]; exact List.getElem_mem _)
      have b := h.bounds hN (l.getD j arz).f1 (by omega) (by omega)
      omega
    subst e
    rw [way_self h]
    have ht := h.tgt
    exact ⟨fun i hi => by simp at hi, rfl, fun i hi => by
      have : i = 0 := by simpa using hi
      subst this
      show (atM M v).f1 = _
      rw [ht]; simp, by show (0 : Int) = _; rw [ht]⟩
  | succ m ih =>
    intro v h0 h1 hf hm
    have hvt : v ≠ t := fun e => by rw [e, h.tgt] at hm; simp at hm; omega
    obtain ⟨j, j1, j2, j3, j4, j5, j6, _⟩ := fnd_spec hN h h0 h1 hvt hf
    have g := hN.arc _ (show l.getD j arz ∈ l by rw [getDA l j j1]; exact List.getElem_mem _)
    have hst := way_step hN h h0 h1 hvt hf
    rw [j2, Int.toNat_natCast] at hst
    have ih' := ih (l.getD j arz).f1 (by omega) (by omega) j4 (by omega)
    rw [hst]
    generalize way M l (l.getD j arz).f1 = w at ih'
    have ea : arc l (j : Int) = l.getD j arz := by unfold arc; rw [Int.toNat_natCast]
    have wl : (w.length : Int) = m := by
      have := ih'.cnt 0 (by omega)
      rw [show wnode l (l.getD j arz).f1 w 0 = (l.getD j arz).f1 from rfl] at this
      omega
    refine ⟨fun i hi => ?_, ?_, fun i hi => ?_, ?_⟩
    · cases i with
      | zero => exact ⟨⟨by show (0 : Int) ≤ (j : Int); omega, by show (j : Int) < l.length; omega⟩, by show (arc l (j : Int)).f0 = v; rw [ea]; exact j3⟩
      | succ i =>
        have := ih'.inn i (by simpa using hi)
        rw [List.getD_cons_succ, wnode_cons, ea]
        exact this
    · rw [List.length_cons, wnode_cons, ea]; exact ih'.fin
    · cases i with
      | zero => show (atM M v).f1 = _; rw [List.length_cons]; omega
      | succ i =>
        rw [wnode_cons, ea, ih'.cnt i (by simpa using hi), List.length_cons]; omega
    · show (arc l (j : Int)).f2 + costS l w = _
      rw [ea, ih'.cst]; omega
section
variable {n : Int} {l : List Ar} {M : List Me} {t v : Int} {w : List Int} (h : WayP l M t v w)
include h
theorem WayP.walk (hw : w.length ≤ 20) : WalkP l w := by
  refine ⟨fun i hi => ⟨(h.inn i hi).1, fun h0 => ?_⟩, hw⟩
  obtain ⟨b, rfl⟩ : ∃ b, i = b + 1 := ⟨i - 1, by omega⟩
  rw [(h.inn (b + 1) hi).2]; rfl
theorem WayP.nd_ (h0 : w.length ≠ 0) (i : Nat) (hi : i ≤ w.length) : nod l w i = wnode l v w i := by
  cases i with
  | zero => exact (h.inn 0 (by omega)).2
  | succ i => exact nod_succ l w i (by omega)
theorem WayP.diff (h0 : w.length ≠ 0) (a b : Nat) (hab : a < b) (hb : b ≤ w.length) : nod l w a ≠ nod l w b := by
  rw [h.nd_ h0 a (by omega), h.nd_ h0 b hb]
  intro e
  have h1 := h.cnt a (by omega)
  have h2 := h.cnt b hb
  rw [e] at h1
  omega
theorem WayP.plain : plW l w = w := by
  by_cases h0 : w.length = 0
  · rw [plW_nil h0]; exact (List.eq_nil_of_length_eq_zero h0).symm
  · exact plain_same (fun a b hab hb => h.diff h0 a b hab hb)
end
end Go.Proofs.Ytgnnimhhkbbfiaa.M
