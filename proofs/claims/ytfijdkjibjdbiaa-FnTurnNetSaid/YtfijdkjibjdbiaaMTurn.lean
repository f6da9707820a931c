/- A net turned round. -/
import Derived.Test.YtfijdkjibjdbiaaY
import Derived.Test.YtfijdkjibjdbiaaMNet
import Derived.Test.YtfijdkjibjdbiaaPrintF38
set_option linter.unusedVariables false
set_option linter.unusedSimpArgs false
namespace Go.Proofs.Ytfijdkjibjdbiaa.M
open Go.RowKit Go.Proofs.Ytfijdkjibjdbiaa.Print Go.Proofs.YtfijdkjibjdbiaaW.PrintWords Go.Proofs.YtfijdkjibjdbiaaW.PrintLast Go.Proofs.YtfijdkjibjdbiaaY
def turnA (a : Ar) : Ar := ⟨a.f1, a.f0, a.f2, a.f3, a.f4⟩
def turnL (l : List Ar) : List Ar := l.map turnA
theorem turnL_len (l : List Ar) : (turnL l).length = l.length := by simp [turnL]
theorem turn2 (l : List Ar) : turnL (turnL l) = l := by simp [turnL, turnA, Function.comp_def]
theorem turnL_at (l : List Ar) (i : Nat) (h : i < l.length) : (turnL l).getD i arz = turnA (l.getD i arz) := by rw [getDA _ _ (by rw [turnL_len]; exact h), getDA _ _ h]; simp [turnL]
theorem turnP {n : Int} {l : List Ar} (h : NetP n l) : NetP n (turnL l) :=
  ⟨h.lo, h.hi, by rw [turnL_len]; exact h.few, fun x hx => by
    obtain ⟨a, ha, rfl⟩ := List.mem_map.1 hx
    obtain ⟨q0, q1, q2, q3, q4, q⟩ := h.arc a ha
    exact ⟨q2, q3, q0, q1, fun e => q4 e.symm, q⟩⟩
theorem takeA (l : List Ar) (i : Nat) (h : i < l.length) : l.take (i + 1) = l.take i ++ [l.getD i arz] := by rw [List.take_add_one, List.getElem?_eq_getElem h, getDA l i h]; rfl
theorem iback_loop (n : Int) (l : List Ar) (hl : l.length ≤ 1000000000) (d : Nat) : ∀ i : Nat, i ≤ l.length → l.length - i = d →
    Ev (fun k => impl_Net_back.l0 k l (l.length : Int) (i : Int) n (turnL (l.take i))) (n, turnL l) := by
  induction d with
  | zero =>
    intro i hi hd
    have e : i = l.length := by omega
    subst e
    exact Ev.step (fun k => impl_Net_back.l0.eq_2 _ _ _ _ _ _) (Ev.neg (by omega) (Ev.now' (by rw [List.take_length])))
  | succ d ih =>
    intro i hi hd
    refine Ev.step (fun k => impl_Net_back.l0.eq_2 _ _ _ _ _ _) (Ev.pos (by omega) (Ev.pos (by omega) (Ev.pos (by omega) (Ev.pos (by rw [turnL_len, List.length_take]; omega) ?_))))
    rw [nxt i (by omega), rdA]
    have e : turnL (l.take i) ++ [(⟨(l.getD i arz).f1, (l.getD i arz).f0, (l.getD i arz).f2, (l.getD i arz).f3, (l.getD i arz).f4⟩ : Ar)] = turnL (l.take (i + 1)) := by
      rw [takeA l i (by omega)]; simp [turnL, turnA]
    rw [e]
    exact ih (i + 1) (by omega) (by omega)
theorem iback_ev (n : Int) (l : List Ar) (hl : l.length ≤ 1000000000) : Ev (fun k => impl_Net_back.f k n l) (n, turnL l) := by
  unfold impl_Net_back.f
  exact Ev.pos (by omega) (Ev.pos (by omega) (iback_loop n l hl l.length 0 (by omega) (by omega)))
end Go.Proofs.Ytfijdkjibjdbiaa.M
