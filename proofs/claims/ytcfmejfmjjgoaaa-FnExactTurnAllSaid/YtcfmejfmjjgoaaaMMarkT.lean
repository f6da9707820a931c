/- Turns marked with numbers. -/
import Derived.Test.YtcfmejfmjjgoaaaY
import Derived.Test.YtcfmejfmjjgoaaaMNet
import Derived.Test.YtcfmejfmjjgoaaaMTurns
import Derived.Test.YtcfmejfmjjgoaaaPrint0
import Derived.Test.YtcfmejfmjjgoaaaPrintF36
set_option linter.unusedVariables false
set_option linter.unusedSimpArgs false
namespace Go.Proofs.Ytcfmejfmjjgoaaa.M
open Go.RowKit Go.Proofs.Ytcfmejfmjjgoaaa.Print Go.Proofs.YtcfmejfmjjgoaaaW.PrintWords Go.Proofs.YtcfmejfmjjgoaaaW.PrintLast Go.Proofs.YtcfmejfmjjgoaaaY
theorem markT_loop (a : Int) (n : Nat) (ha0 : 0 ≤ a) (ha : a ≤ 1000000000000) (hl : n ≤ 1000000000000) (d : Nat) : ∀ (i : Nat) (l : List Tu), l.length = n → i ≤ n → n - i = d →
    ∃ l', Ev (fun k => laws_markTurnS.l0 k l (a + 3 * i) (i : Int)) (a + 3 * n, l') := by
  induction d with
  | zero =>
    intro i l hln hi hd
    have e : i = n := by omega
    subst e
    exact ⟨l, Ev.step (fun k => laws_markTurnS.l0.eq_2 _ _ _ _) (Ev.neg (by omega) (Ev.now _))⟩
  | succ d ih =>
    intro i l hln hi hd
    have hw : wrap64 (wrap64 (wrap64 (a + 3 * (i : Int) + 1) + 1) + 1) = a + 3 * ((i + 1 : Nat) : Int) := by
      rw [w64 (x := a + 3 * (i : Int) + 1) (by omega) (by omega), w64 (x := a + 3 * (i : Int) + 1 + 1) (by omega) (by omega), w64 (x := a + 3 * (i : Int) + 1 + 1 + 1) (by omega) (by omega)]; omega
    obtain ⟨l', h⟩ := ih (i + 1) ((((l.set i ⟨a + 3 * (i : Int), (rd_T31 l (i : Int)).f1, (rd_T31 l (i : Int)).f2⟩).set i ⟨(rd_T31 (l.set i ⟨a + 3 * (i : Int), (rd_T31 l (i : Int)).f1, (rd_T31 l (i : Int)).f2⟩) (i : Int)).f0, wrap64 (a + 3 * (i : Int) + 1), (rd_T31 (l.set i ⟨a + 3 * (i : Int), (rd_T31 l (i : Int)).f1, (rd_T31 l (i : Int)).f2⟩) (i : Int)).f2⟩).set i _)) (by simp only [List.length_set]; exact hln) (by omega) (by omega)
    refine ⟨l', Ev.step (fun k => laws_markTurnS.l0.eq_2 _ _ _ _) (Ev.pos (by omega) (Ev.pos (by omega) ?_))⟩
    simp only [Option.bind_some]
    rw [hw, nxt i (by omega), Int.toNat_natCast]
    exact h
theorem markT_ev (a : Int) (l : List Tu) (ha0 : 0 ≤ a) (ha : a ≤ 1000000000000) (hl : l.length ≤ 1000000000000) : ∃ l', Ev (fun k => laws_markTurnS.f k l a) (a + 3 * l.length, l') := by
  obtain ⟨l', h⟩ := markT_loop a l.length ha0 ha hl l.length 0 l rfl (by omega) (by omega)
  rw [show ((0 : Nat) : Int) = 0 from rfl, Int.mul_zero, Int.add_zero] at h
  exact ⟨l', h⟩
end Go.Proofs.Ytcfmejfmjjgoaaa.M
