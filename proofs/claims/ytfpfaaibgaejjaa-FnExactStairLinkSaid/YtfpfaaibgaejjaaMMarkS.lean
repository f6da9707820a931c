/- Steps marked with numbers, and looked at again. -/
import Derived.Test.YtfpfaaibgaejjaaY
import Derived.Test.YtfpfaaibgaejjaaMDraw
import Derived.Test.YtfpfaaibgaejjaaMStair
import Derived.Test.YtfpfaaibgaejjaaMSteps
import Derived.Test.YtfpfaaibgaejjaaPrint0
import Derived.Test.YtfpfaaibgaejjaaPrintB
import Derived.Test.YtfpfaaibgaejjaaPrintF14
set_option linter.unusedVariables false
set_option linter.unusedSimpArgs false
namespace Go.Proofs.Ytfpfaaibgaejjaa.M
open Go.RowKit Go.Proofs.Ytfpfaaibgaejjaa.Print Go.Proofs.YtfpfaaibgaejjaaW.PrintWords Go.Proofs.YtfpfaaibgaejjaaW.PrintLast Go.Proofs.YtfpfaaibgaejjaaY
def mk2 (a : Int) : St := ⟨a, a + 1⟩
def upsS (a : Int) (n : Nat) : List St := (List.range n).map fun (i : Nat) => mk2 (a + 2 * (i : Int))
theorem upsS_len (a : Int) (n : Nat) : (upsS a n).length = n := by simp [upsS]
theorem getDS (l : List St) (i : Nat) (h : i < l.length) : l.getD i stz = l[i] := by
  rw [List.getD_eq_getElem?_getD, List.getElem?_eq_getElem h]; rfl
theorem upsS_at (a : Int) (n i : Nat) (h : i < n) : (upsS a n).getD i stz = mk2 (a + 2 * (i : Int)) := by rw [getDS _ _ (by rw [upsS_len]; exact h)]; simp [upsS]
theorem set_getS (l : List St) (i : Nat) (x : St) (h : i < l.length) : (l.set i x).getD i stz = x := by rw [getDS _ _ (by rw [List.length_set]; exact h)]; simp
theorem rdSt (l : List St) (i : Nat) : rd_T36 l (i : Int) = l.getD i stz := rdn l i
theorem nxS (i : Nat) (h : i ≤ 1000000000000) : wrap64 ((i : Int) + 1) = ((i + 1 : Nat) : Int) := by rw [w64 (by omega) (by omega)]; omega
theorem dropS (l : List St) (i : Nat) (h : i < l.length) : l.drop i = l[i] :: l.drop (i + 1) := List.drop_eq_getElem_cons h
theorem markS_loop (a : Int) (l : List St) (ha0 : 0 ≤ a) (ha : a ≤ 1000000000000) (hl : l.length ≤ 1000000000000) (d : Nat) : ∀ i : Nat, i ≤ l.length → l.length - i = d →
    Ev (fun k => laws_markStepS.l0 k (upsS a i ++ l.drop i) (a + 2 * i) (i : Int)) (a + 2 * l.length, upsS a l.length) := by
  induction d with
  | zero =>
    intro i hi hd
    have e : i = l.length := by omega
    subst e
    refine Ev.step (fun k => laws_markStepS.l0.eq_2 _ _ _ _) (Ev.neg (by rw [List.length_append, upsS_len, List.length_drop]; omega) (Ev.now' ?_))
    rw [List.drop_length, List.append_nil]
  | succ d ih =>
    intro i hi hd
    have hlen : i < (upsS a i ++ l.drop i).length := by rw [List.length_append, upsS_len, List.length_drop]; omega
    refine Ev.step (fun k => laws_markStepS.l0.eq_2 _ _ _ _) (Ev.pos (by omega) (Ev.pos (by omega) ?_))
    rw [nxS i (by omega), Int.toNat_natCast]
    simp only [Option.bind_some]
    rw [w64 (x := a + 2 * (i : Int) + 1) (by omega) (by omega), w64 (x := a + 2 * (i : Int) + 1 + 1) (by omega) (by omega)]
    simp only [rdSt, List.set_set]
    have hl1 : ∀ x, i < ((upsS a i ++ l.drop i).set i x).length := fun x => by rw [List.length_set]; exact hlen
    simp only [set_getS _ _ _ hlen]
    have e : (upsS a i ++ l.drop i).set i ⟨a + 2 * (i : Int), a + 2 * (i : Int) + 1⟩ = upsS a (i + 1) ++ l.drop (i + 1) := by
      rw [show (⟨a + 2 * (i : Int), a + 2 * (i : Int) + 1⟩ : St) = mk2 (a + 2 * (i : Int)) from rfl, List.set_append_right _ _ (by rw [upsS_len]; omega), upsS_len, Nat.sub_self, dropS l i (by omega), List.set_cons_zero]
      simp [upsS, List.range_succ]
    rw [e, show a + 2 * (i : Int) + 1 + 1 = a + 2 * ((i + 1 : Nat) : Int) by omega]
    exact ih (i + 1) (by omega) (by omega)
theorem markS_ev (a : Int) (l : List St) (ha0 : 0 ≤ a) (ha : a ≤ 1000000000000) (hl : l.length ≤ 1000000000000) : Ev (fun k => laws_markStepS.f k l a) (a + 2 * l.length, upsS a l.length) := by
  have h := markS_loop a l ha0 ha hl l.length 0 (by omega) (by omega)
  have e0 : upsS a 0 ++ l.drop 0 = l := by simp [upsS]
  rw [e0, show ((0 : Nat) : Int) = 0 from rfl, Int.mul_zero, Int.add_zero] at h
  exact h
theorem heldS_loop (a : Int) (n : Nat) (ha0 : 0 ≤ a) (ha : a ≤ 1000000000000) (hl : n ≤ 1000000000000) (d : Nat) : ∀ i : Nat, i ≤ n → n - i = d →
    Ev (fun k => laws_heldStepS.l0 k (upsS a n) (a + 2 * i) (i : Int)) (a + 2 * n) := by
  induction d with
  | zero =>
    intro i hi hd
    have e : i = n := by omega
    subst e
    exact Ev.step (fun k => laws_heldStepS.l0.eq_2 _ _ _ _) (Ev.neg (by rw [upsS_len]; omega) (Ev.now _))
  | succ d ih =>
    intro i hi hd
    refine Ev.step (fun k => laws_heldStepS.l0.eq_2 _ _ _ _) (Ev.pos (by rw [upsS_len]; omega) (Ev.pos (by omega) ?_))
    rw [rdSt, upsS_at a n i (by omega), nxS i (by omega)]
    rw [w64 (x := a + 2 * (i : Int) + 1) (by omega) (by omega), w64 (x := a + 2 * (i : Int) + 1 + 1) (by omega) (by omega)]
    rw [show a + 2 * (i : Int) + 1 + 1 = a + 2 * ((i + 1 : Nat) : Int) by omega]
    exact Ev.pos rfl (Ev.pos rfl (ih (i + 1) (by omega) (by omega)))
theorem heldS_ev (a : Int) (n : Nat) (ha0 : 0 ≤ a) (ha : a ≤ 1000000000000) (hl : n ≤ 1000000000000) : Ev (fun k => laws_heldStepS.f k (upsS a n) a) (a + 2 * n) := by
  have h := heldS_loop a n ha0 ha hl n 0 (by omega) (by omega)
  rw [show ((0 : Nat) : Int) = 0 from rfl, Int.mul_zero, Int.add_zero] at h
  exact h
end Go.Proofs.Ytfpfaaibgaejjaa.M
