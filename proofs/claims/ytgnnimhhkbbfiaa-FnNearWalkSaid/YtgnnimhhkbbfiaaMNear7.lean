/- The best way itself: whole functions. -/
import Derived.Test.YtgnnimhhkbbfiaaMNear6
import Derived.Test.YtgnnimhhkbbfiaaPrintF15
import Derived.Test.YtgnnimhhkbbfiaaPrintF27
import Derived.Test.YtgnnimhhkbbfiaaPrintF29
import Derived.Test.YtgnnimhhkbbfiaaPrintF5
import Derived.Test.YtgnnimhhkbbfiaaPrintF6
set_option linter.unusedVariables false
set_option linter.unusedSimpArgs false
namespace Go.Proofs.Ytgnnimhhkbbfiaa.M
open Go.RowKit Go.Proofs.Ytgnnimhhkbbfiaa.Print Go.Proofs.YtgnnimhhkbbfiaaW.PrintWords Go.Proofs.YtgnnimhhkbbfiaaW.PrintLast Go.Proofs.YtgnnimhhkbbfiaaY
def twoB (n : Int) (l : List Ar) (u t : Int) : Bool := netOkB n l && (decide (0 ≤ u ∧ u ≤ wrap64 (n - 1)) && decide (0 ≤ t ∧ t ≤ wrap64 (n - 1)))
theorem twoB_of {n u t : Int} {l : List Ar} (h : twoB n l u t = true) : NetP n l ∧ (0 ≤ u ∧ u < n) ∧ 0 ≤ t ∧ t < n := by
  unfold twoB at h
  simp only [Bool.and_eq_true, decide_eq_true_eq] at h
  have hN := netP_of h.1
  have := hN.lo
  have := hN.hi
  rw [w64 (x := n - 1) (by omega) (by omega)] at h
  exact ⟨hN, by omega, by omega⟩
theorem twoB_to {n u t : Int} {l : List Ar} (hN : NetP n l) (h0 : 0 ≤ u) (h1 : u < n) (t0 : 0 ≤ t) (t1 : t < n) : twoB n l u t = true := by
  have := hN.lo
  have := hN.hi
  unfold twoB
  rw [ok_of hN, w64 (x := n - 1) (by omega) (by omega)]
  simp; omega
theorem nodesIn2_ev (n : Int) (l : List Ar) (u t : Int) : impl_nodesIn.f n l [u, t] = some (twoB n l u t) := by
  unfold impl_nodesIn.f twoB
  show (some (netOkB n l)).bind _ = _
  rw [Option.bind_some]
  cases netOkB n l with
  | false => rfl
  | true =>
    rw [if_pos rfl]
    show (some (!([u, t].any (n_no n)))).bind _ = _
    unfold n_no
    simp [Bool.not_or]
def wayR (M : List Me) (l : List Ar) (u : Int) : List Int × Bool := if (atM M u).f0 = 99999 then ([], false) else (way M l u, true)
theorem wayR_len {n : Int} {l : List Ar} (hN : NetP n l) {t : Int} {M : List Me} (b : Inv n l t M) {u : Int} (h0 : 0 ≤ u) (h1 : u < n) : (wayR M l u).1.length ≤ 8 := by
  have bd := b.bounds hN u h0 h1
  unfold wayR
  split
  · simp
  · show (way M l u).length ≤ 8
    rw [way_len]; omega
/-- What NearWalk answers. -/
theorem nearWalk_ev (n : Int) (l : List Ar) (u t : Int) (hl : l.length ≤ 1000000000) : ∃ r : List Int × Bool, Ev (fun k => impl_NearWalk.f k n l u t) r ∧ Ev (fun k => spec_NearWalk.f k n l u t) r ∧ r.1.length ≤ 8 ∧ (twoB n l u t = false → r = ([], false)) ∧ (twoB n l u t = true → ∃ M, Best n l t M ∧ Ev (fun k => impl_Net_toward.f k n l t) M ∧ r = wayR M l u) := by
  by_cases hb : twoB n l u t = true
  · obtain ⟨hN, ⟨h0, h1⟩, t0, t1⟩ := twoB_of hb
    obtain ⟨M, b, et, e⟩ := best_ev hN h0 h1 t0 t1
    have h8 := hN.hi
    have h1' := hN.lo
    refine ⟨wayR M l u, ?_, ?_, wayR_len hN b.toInv h0 h1, fun h => absurd (hb.symm.trans h) (by simp), fun _ => ⟨M, b, et, rfl⟩⟩
    · unfold impl_NearWalk.f
      exact Ev.bnd0 (nodesIn2_ev n l u t) (Ev.pos hb (Ev.bnd e (Ev.now _)))
    · unfold spec_NearWalk.f
      refine Ev.bnd (sok1_ev n l (by omega)) (Ev.pos (ok_of hN) (Ev.bnd0 (nIn _ _ _) (Ev.pos (by rw [w64 (x := n - 1) (by omega) (by omega)]; simp; omega) (Ev.bnd0 (nIn _ _ _) (Ev.pos (by rw [w64 (x := n - 1) (by omega) (by omega)]; simp; omega) (Ev.bnd (sWalk_ev hN h0 h1 t0 t1 b) (Ev.now _)))))))
  · have hb' : twoB n l u t = false := by simpa using hb
    refine ⟨([], false), ?_, ?_, by simp, fun _ => rfl, fun h => absurd h hb⟩
    · unfold impl_NearWalk.f
      exact Ev.bnd0 (nodesIn2_ev n l u t) (Ev.neg hb (Ev.now _))
    · unfold spec_NearWalk.f
      refine Ev.bnd (sok1_ev n l (by omega)) (Ev.ite (fun h => Ev.bnd0 (nIn _ _ _) (Ev.ite (fun h2 => Ev.bnd0 (nIn _ _ _) (Ev.neg (fun h3 => hb ?_) (Ev.now _))) (fun _ => Ev.now _))) (fun _ => Ev.now _))
      unfold twoB
      rw [h, h2, h3]; rfl
end Go.Proofs.Ytgnnimhhkbbfiaa.M
