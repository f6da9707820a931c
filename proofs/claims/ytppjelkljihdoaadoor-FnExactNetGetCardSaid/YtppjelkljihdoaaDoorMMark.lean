/- Arcs marked with numbers, and looked at again. -/
import Derived.Test.YtppjelkljihdoaaDoorY
import Derived.Test.YtppjelkljihdoaaDoorMNet
import Derived.Test.YtppjelkljihdoaaDoorPrintF17
import Derived.Test.YtppjelkljihdoaaDoorPrintF18
import Derived.Test.YtppjelkljihdoaaDoorPrintF44
import Derived.Test.YtppjelkljihdoaaDoorPrintF45
set_option linter.unusedVariables false
set_option linter.unusedSimpArgs false
namespace Go.Proofs.YtppjelkljihdoaaDoor.M
open Go.RowKit Go.Proofs.YtppjelkljihdoaaDoor.Print Go.Proofs.YtppjelkljihdoaaDoorW.PrintWords Go.Proofs.YtppjelkljihdoaaDoorW.PrintLast Go.Proofs.YtppjelkljihdoaaDoorY
def mk5 (a : Int) : Ar := ⟨a, a + 1, a + 2, a + 3, a + 4⟩
def upsA (a : Int) (n : Nat) : List Ar := (List.range n).map fun (i : Nat) => mk5 (a + 5 * (i : Int))
theorem upsA_len (a : Int) (n : Nat) : (upsA a n).length = n := by simp [upsA]
theorem upsA_at (a : Int) (n i : Nat) (h : i < n) : (upsA a n).getD i arz = mk5 (a + 5 * (i : Int)) := by rw [getDA _ _ (by rw [upsA_len]; exact h)]; simp [upsA]
theorem set_get (l : List Ar) (i : Nat) (x : Ar) (h : i < l.length) : (l.set i x).getD i arz = x := by rw [getDA _ _ (by rw [List.length_set]; exact h)]; simp
theorem markA_loop (a : Int) (l : List Ar) (ha0 : 0 ≤ a) (ha : a ≤ 1000000000000) (hl : l.length ≤ 1000000000000) (d : Nat) : ∀ i : Nat, i ≤ l.length → l.length - i = d →
    Ev (fun k => laws_markArcS.l0 k (upsA a i ++ l.drop i) (a + 5 * i) (i : Int)) (a + 5 * l.length, upsA a l.length) := by
  induction d with
  | zero =>
    intro i hi hd
    have e : i = l.length := by omega
    subst e
    refine Ev.step (fun k => laws_markArcS.l0.eq_2 _ _ _ _) (Ev.neg (by rw [List.length_append, upsA_len, List.length_drop]; omega) (Ev.now' ?_))
    rw [List.drop_length, List.append_nil]
  | succ d ih =>
    intro i hi hd
    have hlen : i < (upsA a i ++ l.drop i).length := by rw [List.length_append, upsA_len, List.length_drop]; omega
    refine Ev.step (fun k => laws_markArcS.l0.eq_2 _ _ _ _) (Ev.pos (by omega) (Ev.pos (by omega) ?_))
    rw [nxt i (by omega), Int.toNat_natCast]
    simp only [Option.bind_some]
    rw [w64 (x := a + 5 * (i : Int) + 1) (by omega) (by omega), w64 (x := a + 5 * (i : Int) + 1 + 1) (by omega) (by omega), w64 (x := a + 5 * (i : Int) + 1 + 1 + 1) (by omega) (by omega), w64 (x := a + 5 * (i : Int) + 1 + 1 + 1 + 1) (by omega) (by omega), w64 (x := a + 5 * (i : Int) + 1 + 1 + 1 + 1 + 1) (by omega) (by omega)]
    simp only [rdA, List.set_set]
    have hl1 : ∀ x, i < ((upsA a i ++ l.drop i).set i x).length := fun x => by rw [List.length_set]; exact hlen
    simp only [set_get _ _ _ hlen]
    have e : (upsA a i ++ l.drop i).set i ⟨a + 5 * (i : Int), a + 5 * (i : Int) + 1, a + 5 * (i : Int) + 1 + 1, a + 5 * (i : Int) + 1 + 1 + 1, a + 5 * (i : Int) + 1 + 1 + 1 + 1⟩ = upsA a (i + 1) ++ l.drop (i + 1) := by
      have e5 : (⟨a + 5 * (i : Int), a + 5 * (i : Int) + 1, a + 5 * (i : Int) + 1 + 1, a + 5 * (i : Int) + 1 + 1 + 1, a + 5 * (i : Int) + 1 + 1 + 1 + 1⟩ : Ar) = mk5 (a + 5 * (i : Int)) := by
        unfold mk5; congr 1 <;> omega
      rw [e5, List.set_append_right _ _ (by rw [upsA_len]; omega), upsA_len, Nat.sub_self, dropA l i (by omega), List.set_cons_zero]
      simp [upsA, List.range_succ]
    rw [e, show a + 5 * (i : Int) + 1 + 1 + 1 + 1 + 1 = a + 5 * ((i + 1 : Nat) : Int) by omega]
    exact ih (i + 1) (by omega) (by omega)
theorem markA_ev (a : Int) (l : List Ar) (ha0 : 0 ≤ a) (ha : a ≤ 1000000000000) (hl : l.length ≤ 1000000000000) : Ev (fun k => laws_markArcS.f k l a) (a + 5 * l.length, upsA a l.length) := by
  have h := markA_loop a l ha0 ha hl l.length 0 (by omega) (by omega)
  have e0 : upsA a 0 ++ l.drop 0 = l := by simp [upsA]
  rw [e0, show ((0 : Nat) : Int) = 0 from rfl, Int.mul_zero, Int.add_zero] at h
  exact h
theorem markN_ev (n a : Int) (l : List Ar) (ha0 : 0 ≤ a) (ha : a ≤ 1000000000000) (hl : l.length ≤ 1000000000000) : Ev (fun k => laws_markNet.f k n l a) (a + 5 * l.length, upsA a l.length) := by
  unfold laws_markNet.f
  exact Ev.bnd (markA_ev a l ha0 ha hl) (Ev.now _)
theorem heldA_loop (a : Int) (n : Nat) (ha0 : 0 ≤ a) (ha : a ≤ 1000000000000) (hl : n ≤ 1000000000000) (d : Nat) : ∀ i : Nat, i ≤ n → n - i = d →
    Ev (fun k => laws_heldArcS.l0 k (upsA a n) (a + 5 * i) (i : Int)) (a + 5 * n) := by
  induction d with
  | zero =>
    intro i hi hd
    have e : i = n := by omega
    subst e
    exact Ev.step (fun k => laws_heldArcS.l0.eq_2 _ _ _ _) (Ev.neg (by rw [upsA_len]; omega) (Ev.now _))
  | succ d ih =>
    intro i hi hd
    refine Ev.step (fun k => laws_heldArcS.l0.eq_2 _ _ _ _) (Ev.pos (by rw [upsA_len]; omega) (Ev.pos (by omega) ?_))
    rw [rdA, upsA_at a n i (by omega), nxt i (by omega)]
    rw [w64 (x := a + 5 * (i : Int) + 1) (by omega) (by omega), w64 (x := a + 5 * (i : Int) + 1 + 1) (by omega) (by omega), w64 (x := a + 5 * (i : Int) + 1 + 1 + 1) (by omega) (by omega), w64 (x := a + 5 * (i : Int) + 1 + 1 + 1 + 1) (by omega) (by omega), w64 (x := a + 5 * (i : Int) + 1 + 1 + 1 + 1 + 1) (by omega) (by omega)]
    rw [show a + 5 * (i : Int) + 1 + 1 + 1 + 1 + 1 = a + 5 * ((i + 1 : Nat) : Int) by omega]
    refine Ev.pos rfl (Ev.pos rfl (Ev.pos ?_ (Ev.pos ?_ (Ev.pos ?_ (ih (i + 1) (by omega) (by omega))))))
    · show a + 5 * (i : Int) + 2 = _; omega
    · show a + 5 * (i : Int) + 3 = _; omega
    · show a + 5 * (i : Int) + 4 = _; omega
theorem heldN_ev (m a : Int) (n : Nat) (ha0 : 0 ≤ a) (ha : a ≤ 1000000000000) (hl : n ≤ 1000000000000) : Ev (fun k => laws_heldNet.f k m (upsA a n) a) (a + 5 * n) := by
  have h := heldA_loop a n ha0 ha hl n 0 (by omega) (by omega)
  rw [show ((0 : Nat) : Int) = 0 from rfl, Int.mul_zero, Int.add_zero] at h
  unfold laws_heldNet.f
  exact Ev.bnd h (Ev.neg (by omega) (Ev.now _))
end Go.Proofs.YtppjelkljihdoaaDoor.M
