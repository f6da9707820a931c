/- Rows of turns: copied, compared. -/
import Derived.Test.YtcfmejfmjjgoaaaY
import Derived.Test.YtcfmejfmjjgoaaaMNet
import Derived.Test.YtcfmejfmjjgoaaaMTurns
import Derived.Test.YtcfmejfmjjgoaaaPrint0
import Derived.Test.YtcfmejfmjjgoaaaPrintF17
import Derived.Test.YtcfmejfmjjgoaaaPrintF19
import Derived.Test.YtcfmejfmjjgoaaaPrintF21
import Derived.Test.YtcfmejfmjjgoaaaPrintF54
import Derived.Test.YtcfmejfmjjgoaaaPrintF56
set_option linter.unusedVariables false
set_option linter.unusedSimpArgs false
namespace Go.Proofs.Ytcfmejfmjjgoaaa.M
open Go.RowKit Go.Proofs.Ytcfmejfmjjgoaaa.Print Go.Proofs.YtcfmejfmjjgoaaaW.PrintWords Go.Proofs.YtcfmejfmjjgoaaaW.PrintLast Go.Proofs.YtcfmejfmjjgoaaaY
abbrev LTu := S76
def convT (x : LTu) : Tu := ⟨x.f0, x.f1, x.f2⟩
theorem rdLT (l : List LTu) (i : Nat) (h : i < l.length) : rd_T76 l (i : Int) = l[i] := by
  unfold rd_T76; rw [Int.toNat_natCast, List.getD_eq_getElem?_getD, List.getElem?_eq_getElem h]; rfl
theorem toT_loop (l : List LTu) (hl : l.length ≤ 1000000000000) (d : Nat) : ∀ i : Nat, i ≤ l.length → l.length - i = d →
    Ev (fun k => laws_toTurnS.l0 k l ((l.take i).map convT ++ List.replicate (l.length - i) tuz) (i : Int)) (l.map convT) := by
  induction d with
  | zero =>
    intro i hi hd
    refine Ev.step (fun k => laws_toTurnS.l0.eq_2 _ _ _ _) (Ev.neg (by omega) (Ev.now' ?_))
    rw [hd, List.take_of_length_le (by omega)]; simp
  | succ d ih =>
    intro i hi hd
    have hlen : ((l.take i).map convT ++ List.replicate (l.length - i) tuz).length = l.length := by simp; omega
    refine Ev.step (fun k => laws_toTurnS.l0.eq_2 _ _ _ _) (Ev.pos (by omega) (Ev.pos (by omega) (Ev.bnd0 (laws_toTurn.f.eq_1 _ _ _) ?_)))
    rw [nxt i (by omega), rdLT l i (by omega), Int.toNat_natCast]
    refine Ev.pos (by rw [hlen]; omega) ?_
    have h := ih (i + 1) (by omega) (by omega)
    have e : ((l.take i).map convT ++ List.replicate (l.length - i) tuz).set i ⟨l[i].f0, l[i].f1, l[i].f2⟩ = (l.take (i + 1)).map convT ++ List.replicate (l.length - (i + 1)) tuz := by
      have h1 : ((l.take i).map convT).length = i := by simp; omega
      rw [List.set_append_right _ _ (by omega), h1, Nat.sub_self, show l.length - i = (l.length - (i + 1)) + 1 by omega, List.replicate_succ, List.set_cons_zero, List.take_succ_eq_append_getElem (by omega), List.map_append]
      simp [convT]
    rw [e]
    exact h
theorem toT_ev (l : List LTu) (hl : l.length ≤ 1000000000) : Ev (fun k => laws_toTurnS.f k l) (l.map convT) := by
  unfold laws_toTurnS.f
  refine Ev.pos (by omega) (Ev.pos (by omega) ?_)
  have h := toT_loop l (by omega) l.length 0 (by omega) (by omega)
  rw [show ((0 : Nat) : Int) = 0 from rfl] at h
  rw [Int.toNat_natCast]
  exact h
theorem szT_eq (l : List LTu) (a : Int) (h0 : 0 ≤ a) (h1 : a ≤ 1048576) (hm : l.length ≤ maxLen) : ∃ r, laws_szTurnS.f l a = some r ∧ r ≤ 1048576 ∧ (r < 0 ∨ l.length ≤ 1048576) := by
  unfold maxLen at hm
  unfold laws_szTurnS.f
  rw [w64 (x := a - (l.length : Int)) (by omega) (by omega)]
  by_cases h : a - (l.length : Int) < 0
  · rw [if_pos h]; exact ⟨_, rfl, by omega, .inl (by omega)⟩
  · rw [if_neg h]; exact ⟨_, rfl, by omega, .inr (by omega)⟩
theorem eqT_loop (l : List Tu) (hl : l.length ≤ 1000000000000) (d : Nat) : ∀ i : Nat, i ≤ l.length → l.length - i = d → Ev (fun k => laws_eqTurnS.l0 k l l (i : Int)) true := by
  induction d with
  | zero => intro i hi hd; exact Ev.step (fun k => laws_eqTurnS.l0.eq_2 _ _ _ _) (Ev.neg (by omega) (Ev.now _))
  | succ d ih =>
    intro i hi hd
    refine Ev.step (fun k => laws_eqTurnS.l0.eq_2 _ _ _ _) (Ev.pos (by omega) (Ev.pos (by omega) (Ev.pos (by omega) (Ev.bnd0 (a := true) ?_ (Ev.pos rfl ?_)))))
    · unfold laws_eqTurn.f; rw [if_pos rfl, if_pos rfl, if_pos rfl]
    · rw [nxt i (by omega)]; exact ih (i + 1) (by omega) (by omega)
theorem eqT_ev (l : List Tu) (hl : l.length ≤ 1000000000000) : Ev (fun k => laws_eqTurnS.f k l l) true := by
  unfold laws_eqTurnS.f
  exact Ev.pos rfl (eqT_loop l hl l.length 0 (by omega) (by omega))
end Go.Proofs.Ytcfmejfmjjgoaaa.M
