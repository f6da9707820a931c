/- No walk with its turns costs less than what stands at its end. -/
import Derived.Test.YtcfmejfmjjgoaaaMBell3
import Derived.Test.YtcfmejfmjjgoaaaMTurnW
import Derived.Test.YtcfmejfmjjgoaaaMBell
import Derived.Test.YtcfmejfmjjgoaaaMBell2
import Derived.Test.YtcfmejfmjjgoaaaMEdge
import Derived.Test.YtcfmejfmjjgoaaaMNet
import Derived.Test.YtcfmejfmjjgoaaaMTurns
import Derived.Test.YtcfmejfmjjgoaaaMTurns2
import Derived.Test.YtcfmejfmjjgoaaaMWalk
import Derived.Test.YtcfmejfmjjgoaaaMWalk2

set_option linter.unusedVariables false
set_option linter.unusedSimpArgs false
namespace Go.Proofs.Ytcfmejfmjjgoaaa.M
open Go.RowKit Go.Proofs.Ytcfmejfmjjgoaaa.Print Go.Proofs.YtcfmejfmjjgoaaaW.PrintWords Go.Proofs.YtcfmejfmjjgoaaaW.PrintLast Go.Proofs.YtcfmejfmjjgoaaaY
/-! ### Walks -/
theorem tSum_best {n : Int} {l : List Ar} (hN : NetP n l) {t : List Tu} (hb : ∀ x ∈ t, -1 ≤ x.f2 ∧ x.f2 ≤ 99) {v : Int} {B : List Int} (g : GInv (tG hN t v) B) (f : GFix (tG hN t v) B) {w : List Int} (hw : WalkP l w) (d : Nat) :
    ∀ (i : Nat) (s x : Int), 1 ≤ i → i + d = w.length → 0 ≤ x → x ≤ 200 * i → x + costS l (w.drop i) ≤ s → s ≤ 200 * i + 99 * w.length → 0 ≤ tSum t w s i d → B.getD (w.getD (i - 1) 0).toNat 0 ≤ x → B.getD (w.getD (w.length - 1) 0).toNat 0 ≤ tSum t w s i d := by
  have hlen := hw.2
  induction d with
  | zero =>
    intro i s x h1 hi x0 x1 hx hs hc hB
    have e : i = w.length := by omega
    subst e
    rw [List.drop_eq_nil_of_le (by omega)] at hx
    unfold tSum
    have hx' : x + 0 ≤ s := hx
    omega
  | succ d ih =>
    intro i s x h1 hi x0 x1 hx hs hc hB
    have bd := tCost_bd (w.getD (i - 1) 0) (w.getD i 0) t hb
    have gi := hw.1 i (by omega)
    have gp := hw.1 (i - 1) (by omega)
    obtain ⟨gi0, gi1⟩ := gi
    have gj := gi1 (by omega)
    have hcs := costS_bd (n := n) hN (w.drop (i + 1)) (fun k hk => In_drop hw k (List.mem_of_mem_drop hk))
    have hcl : (w.drop (i + 1)).length = d := by rw [List.length_drop]; omega
    unfold tSum at hc ⊢
    by_cases c : tCost (w.getD (i - 1) 0) (w.getD i 0) t < 0
    · rw [if_pos c] at hc; omega
    · rw [if_neg c] at hc ⊢
      have ed : costS l (w.drop i) = (arc l (w.getD i 0)).f2 + costS l (w.drop (i + 1)) := by rw [dropI w i (by omega)]; rfl
      have ga := arcAt hN (w.getD i 0).toNat (by have := gi0.2; have := gi0.1; omega)
      have gI := gi0.1
      have gI2 := gi0.2
      have gP := gp.1.1
      have gP2 := gp.1.2
      have fx := f.ed (w.getD (i - 1) 0).toNat (w.getD i 0).toNat (show (w.getD (i - 1) 0).toNat < l.length by omega) (show (w.getD i 0).toNat < l.length by omega)
        (tE_iff.2 ⟨gj, by rw [Int.toNat_of_nonneg gI, Int.toNat_of_nonneg gP]; omega⟩) (by omega)
      have eW : (tG hN t v).W (w.getD (i - 1) 0).toNat (w.getD i 0).toNat = tCost (w.getD (i - 1) 0) (w.getD i 0) t + (arc l (w.getD i 0)).f2 := by
        show tCost (((w.getD (i - 1) 0).toNat : Nat) : Int) (((w.getD i 0).toNat : Nat) : Int) t + (l.getD (w.getD i 0).toNat arz).f2 = _
        rw [Int.toNat_of_nonneg gI, Int.toNat_of_nonneg gP]; rfl
      have ea : (arc l (w.getD i 0)).f2 = (l.getD (w.getD i 0).toNat arz).f2 := rfl
      rw [eW] at fx
      rw [w64 (by omega) (by omega)] at hc ⊢
      refine ih (i + 1) _ (x + tCost (w.getD (i - 1) 0) (w.getD i 0) t + (arc l (w.getD i 0)).f2) (by omega) (by omega) (by omega) (by omega) (by omega) (by omega) hc ?_
      rw [show i + 1 - 1 = i from rfl]
      omega
/-- No walk with its turns costs less than what stands at its end. -/
theorem turn_best {n : Int} {l : List Ar} (hN : NetP n l) {t : List Tu} (hb : ∀ x ∈ t, -1 ≤ x.f2 ∧ x.f2 ≤ 99) {B : List Int} {w : List Int} (hw : WalkP l w) (h0 : w.length ≠ 0) (g : GInv (tG hN t (arc l (w.getD 0 0)).f0) B) (f : GFix (tG hN t (arc l (w.getD 0 0)).f0) B)
    (hc : 0 ≤ tSum t w (costS l w) 1 (w.length - 1)) : (outA n l (arc l (w.getD 0 0)).f0 B).getD (arc l (w.getD (w.length - 1) 0)).f1.toNat 0 ≤ tSum t w (costS l w) 1 (w.length - 1) := by
  have hlen := hw.2
  have gi := (hw.1 0 (by omega)).1
  have gl := (hw.1 (w.length - 1) (by omega)).1
  have gi0 := gi.1
  have gi1 := gi.2
  have gl0 := gl.1
  have gl1 := gl.2
  have ga := arcAt hN (w.getD 0 0).toNat (by omega)
  have gz := arcAt hN (w.getD (w.length - 1) 0).toNat (by omega)
  have hcs := costS_bd (n := n) hN (w.drop 1) (fun k hk => In_drop hw k (List.mem_of_mem_drop hk))
  have hcl : (w.drop 1).length = w.length - 1 := List.length_drop
  have ed : costS l w = (arc l (w.getD 0 0)).f2 + costS l (w.drop 1) := by
    have := dropI w 0 (by omega)
    rw [List.drop_zero] at this
    conv => lhs; rw [this]
    rfl
  have ea : (arc l (w.getD 0 0)).f2 = (l.getD (w.getD 0 0).toNat arz).f2 := rfl
  have hst := f.st (w.getD 0 0).toNat (show (w.getD 0 0).toNat < l.length by omega)
  have eS : (tG hN t (arc l (w.getD 0 0)).f0).S (w.getD 0 0).toNat = (arc l (w.getD 0 0)).f2 := by
    show tS l (arc l (w.getD 0 0)).f0 (w.getD 0 0).toNat = _
    unfold tS
    exact if_pos rfl
  rw [eS] at hst
  refine Int.le_trans (outA_le (show 0 ≤ (arc l (w.getD 0 0)).f0 from ga.1) (show (arc l (w.getD 0 0)).f0 < n from ga.2.1) _ ?_ (w.getD (w.length - 1) 0).toNat (by omega) rfl) ?_
  · show ((l.getD (w.getD (w.length - 1) 0).toNat arz).f1.toNat : Int) < n
    omega
  · exact tSum_best hN hb g f hw (w.length - 1) 1 _ ((arc l (w.getD 0 0)).f2) (by omega) (by omega) (by omega) (by omega) (by omega) (by omega) hc hst
end Go.Proofs.Ytcfmejfmjjgoaaa.M
