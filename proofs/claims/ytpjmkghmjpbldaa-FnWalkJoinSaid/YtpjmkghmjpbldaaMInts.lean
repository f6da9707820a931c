/- Rows of whole numbers: copied, compared, marked, looked at again. -/
import Derived.Test.YtpjmkghmjpbldaaY
import Derived.Test.YtpjmkghmjpbldaaMNet
import Derived.Test.YtpjmkghmjpbldaaPrintB
set_option linter.unusedVariables false
set_option linter.unusedSimpArgs false
namespace Go.Proofs.Ytpjmkghmjpbldaa.M
open Go.RowKit Go.Proofs.Ytpjmkghmjpbldaa.Print Go.Proofs.YtpjmkghmjpbldaaW.PrintWords Go.Proofs.YtpjmkghmjpbldaaW.PrintLast Go.Proofs.YtpjmkghmjpbldaaY
theorem toI_loop (l : List Int) (hl : l.length ≤ 1000000000000) (d : Nat) : ∀ i : Nat, i ≤ l.length → l.length - i = d →
    Ev (fun k => laws_toIntS.l0 k l (l.take i ++ List.replicate (l.length - i) 0) (i : Int)) l := by
  induction d with
  | zero =>
    intro i hi hd
    refine Ev.step (fun k => laws_toIntS.l0.eq_2 _ _ _ _) (Ev.neg (by omega) (Ev.now' ?_))
    rw [hd, List.take_of_length_le (by omega)]; simp
  | succ d ih =>
    intro i hi hd
    have hlen : (l.take i ++ List.replicate (l.length - i) 0).length = l.length := by simp; omega
    refine Ev.step (fun k => laws_toIntS.l0.eq_2 _ _ _ _) (Ev.pos (by omega) (Ev.pos (by omega) (Ev.pos (by rw [hlen]; omega) ?_)))
    rw [nxt i (by omega), rdI, getDI l i (by omega), Int.toNat_natCast]
    have e : (l.take i ++ List.replicate (l.length - i) 0).set i l[i] = l.take (i + 1) ++ List.replicate (l.length - (i + 1)) 0 := by
      have h1 : (l.take i).length = i := by simp; omega
      rw [List.set_append_right _ _ (by omega), h1, Nat.sub_self, show l.length - i = (l.length - (i + 1)) + 1 by omega, List.replicate_succ, List.set_cons_zero, List.take_succ_eq_append_getElem (by omega), List.append_assoc]
      rfl
    rw [e]
    exact ih (i + 1) (by omega) (by omega)
theorem toI_ev (l : List Int) (hl : l.length ≤ 1000000000) : Ev (fun k => laws_toIntS.f k l) l := by
  unfold laws_toIntS.f
  refine Ev.pos (by omega) (Ev.pos (by omega) ?_)
  have h := toI_loop l (by omega) l.length 0 (by omega) (by omega)
  rw [show ((0 : Nat) : Int) = 0 from rfl] at h
  rw [Int.toNat_natCast]
  exact h
theorem eqI_loop (l : List Int) (hl : l.length ≤ 1000000000000) (d : Nat) : ∀ i : Nat, i ≤ l.length → l.length - i = d → Ev (fun k => laws_eqIntS.l0 k l l (i : Int)) true := by
  induction d with
  | zero => intro i hi hd; exact Ev.step (fun k => laws_eqIntS.l0.eq_2 _ _ _ _) (Ev.neg (by omega) (Ev.now _))
  | succ d ih =>
    intro i hi hd
    refine Ev.step (fun k => laws_eqIntS.l0.eq_2 _ _ _ _) (Ev.pos (by omega) (Ev.pos (by omega) (Ev.pos (by omega) (Ev.pos rfl ?_))))
    rw [nxt i (by omega)]; exact ih (i + 1) (by omega) (by omega)
theorem eqI_ev (l : List Int) (hl : l.length ≤ 1000000000000) : Ev (fun k => laws_eqIntS.f k l l) true := by
  unfold laws_eqIntS.f
  exact Ev.pos rfl (eqI_loop l hl l.length 0 (by omega) (by omega))
/-- So many numbers from one on. -/
def ups (a : Int) (n : Nat) : List Int := (List.range n).map fun (i : Nat) => a + (i : Int)
theorem ups_len (a : Int) (n : Nat) : (ups a n).length = n := by simp [ups]
theorem ups_at (a : Int) (n i : Nat) (h : i < n) : (ups a n).getD i 0 = a + i := by rw [getDI _ _ (by rw [ups_len]; exact h)]; simp [ups]
theorem mark_loop (a : Int) (l : List Int) (ha0 : 0 ≤ a) (ha : a ≤ 1000000000000) (hl : l.length ≤ 1000000000000) (d : Nat) : ∀ i : Nat, i ≤ l.length → l.length - i = d →
    Ev (fun k => laws_markIntS.l0 k (ups a i ++ l.drop i) (a + i) (i : Int)) (a + l.length, ups a l.length) := by
  induction d with
  | zero =>
    intro i hi hd
    have e : i = l.length := by omega
    subst e
    refine Ev.step (fun k => laws_markIntS.l0.eq_2 _ _ _ _) (Ev.neg (by rw [List.length_append, ups_len, List.length_drop]; omega) (Ev.now' ?_))
    rw [List.drop_length, List.append_nil]
  | succ d ih =>
    intro i hi hd
    refine Ev.step (fun k => laws_markIntS.l0.eq_2 _ _ _ _) (Ev.pos (by rw [List.length_append, ups_len, List.length_drop]; omega) (Ev.pos (by omega) ?_))
    rw [nxt i (by omega), Int.toNat_natCast, w64 (x := a + (i : Int) + 1) (by omega) (by omega)]
    have e : (ups a i ++ l.drop i).set i (a + i) = ups a (i + 1) ++ l.drop (i + 1) := by
      rw [List.set_append_right _ _ (by rw [ups_len]; omega), ups_len, Nat.sub_self, dropI l i (by omega), List.set_cons_zero]
      simp [ups, List.range_succ]
    rw [e, show a + (i : Int) + 1 = a + ((i + 1 : Nat) : Int) by omega]
    exact ih (i + 1) (by omega) (by omega)
theorem mark_ev (a : Int) (l : List Int) (ha0 : 0 ≤ a) (ha : a ≤ 1000000000000) (hl : l.length ≤ 1000000000000) : Ev (fun k => laws_markIntS.f k l a) (a + l.length, ups a l.length) := by
  have h := mark_loop a l ha0 ha hl l.length 0 (by omega) (by omega)
  have e0 : ups a 0 ++ l.drop 0 = l := by simp [ups]
  rw [e0, show ((0 : Nat) : Int) = 0 from rfl, Int.add_zero] at h
  exact h
theorem held_loop (a : Int) (n : Nat) (ha0 : 0 ≤ a) (ha : a ≤ 1000000000000) (hl : n ≤ 1000000000000) (d : Nat) : ∀ i : Nat, i ≤ n → n - i = d →
    Ev (fun k => laws_heldIntS.l0 k (ups a n) (a + i) (i : Int)) (a + n) := by
  induction d with
  | zero =>
    intro i hi hd
    have e : i = n := by omega
    subst e
    exact Ev.step (fun k => laws_heldIntS.l0.eq_2 _ _ _ _) (Ev.neg (by rw [ups_len]; omega) (Ev.now _))
  | succ d ih =>
    intro i hi hd
    refine Ev.step (fun k => laws_heldIntS.l0.eq_2 _ _ _ _) (Ev.pos (by rw [ups_len]; omega) (Ev.pos (by omega) ?_))
    rw [rdI, ups_at a n i (by omega), nxt i (by omega), w64 (x := a + (i : Int) + 1) (by omega) (by omega), show a + (i : Int) + 1 = a + ((i + 1 : Nat) : Int) by omega]
    exact Ev.pos rfl (ih (i + 1) (by omega) (by omega))
theorem held_ev (a : Int) (n : Nat) (ha0 : 0 ≤ a) (ha : a ≤ 1000000000000) (hl : n ≤ 1000000000000) : Ev (fun k => laws_heldIntS.f k (ups a n) a) (a + n) := by
  have h := held_loop a n ha0 ha hl n 0 (by omega) (by omega)
  rw [show ((0 : Nat) : Int) = 0 from rfl, Int.add_zero] at h
  exact h
end Go.Proofs.Ytpjmkghmjpbldaa.M
