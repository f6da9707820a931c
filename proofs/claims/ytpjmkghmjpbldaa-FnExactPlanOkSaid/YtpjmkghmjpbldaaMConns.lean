/- Rows of connections: copied, compared. -/
import Derived.Test.YtpjmkghmjpbldaaY
import Derived.Test.YtpjmkghmjpbldaaMNet
import Derived.Test.YtpjmkghmjpbldaaPrint0
import Derived.Test.YtpjmkghmjpbldaaPrintB
import Derived.Test.YtpjmkghmjpbldaaPrintF101
import Derived.Test.YtpjmkghmjpbldaaPrintF103
import Derived.Test.YtpjmkghmjpbldaaPrintF39
import Derived.Test.YtpjmkghmjpbldaaPrintF41
import Derived.Test.YtpjmkghmjpbldaaPrintF77
import Derived.Test.YtpjmkghmjpbldaaPrintF81
set_option linter.unusedVariables false
set_option linter.unusedSimpArgs false
namespace Go.Proofs.Ytpjmkghmjpbldaa.M
open Go.RowKit Go.Proofs.Ytpjmkghmjpbldaa.Print Go.Proofs.YtpjmkghmjpbldaaW.PrintWords Go.Proofs.YtpjmkghmjpbldaaW.PrintLast Go.Proofs.YtpjmkghmjpbldaaY
abbrev Cn := S89
abbrev cnz : Cn := z89
abbrev LCn := S109
theorem rdC (l : List Cn) (i : Nat) : rd_T89 l (i : Int) = l.getD i cnz := by unfold rd_T89; rw [Int.toNat_natCast]
def convC (x : LCn) : Cn := ⟨x.f0, x.f1, x.f2, x.f3, x.f4⟩
theorem rdLC (l : List LCn) (i : Nat) (h : i < l.length) : rd_T109 l (i : Int) = l[i] := by
  unfold rd_T109; rw [Int.toNat_natCast, List.getD_eq_getElem?_getD, List.getElem?_eq_getElem h]; rfl
theorem toC_loop (l : List LCn) (hl : l.length ≤ 1000000000000) (d : Nat) : ∀ i : Nat, i ≤ l.length → l.length - i = d →
    Ev (fun k => laws_toConnS.l0 k l ((l.take i).map convC ++ List.replicate (l.length - i) cnz) (i : Int)) (l.map convC) := by
  induction d with
  | zero =>
    intro i hi hd
    refine Ev.step (fun k => laws_toConnS.l0.eq_2 _ _ _ _) (Ev.neg (by omega) (Ev.now' ?_))
    rw [hd, List.take_of_length_le (by omega)]; simp
  | succ d ih =>
    intro i hi hd
    have hlen : ((l.take i).map convC ++ List.replicate (l.length - i) cnz).length = l.length := by simp; omega
    refine Ev.step (fun k => laws_toConnS.l0.eq_2 _ _ _ _) (Ev.pos (by omega) (Ev.pos (by omega) (Ev.bnd0 (laws_toConn.f.eq_1 _ _ _ _ _) ?_)))
    rw [nxt i (by omega), rdLC l i (by omega), Int.toNat_natCast]
    refine Ev.pos (by rw [hlen]; omega) ?_
    have h := ih (i + 1) (by omega) (by omega)
    have e : ((l.take i).map convC ++ List.replicate (l.length - i) cnz).set i ⟨l[i].f0, l[i].f1, l[i].f2, l[i].f3, l[i].f4⟩ = (l.take (i + 1)).map convC ++ List.replicate (l.length - (i + 1)) cnz := by
      have h1 : ((l.take i).map convC).length = i := by simp; omega
      rw [List.set_append_right _ _ (by omega), h1, Nat.sub_self, show l.length - i = (l.length - (i + 1)) + 1 by omega, List.replicate_succ, List.set_cons_zero, List.take_succ_eq_append_getElem (by omega), List.map_append]
      simp [convC]
    rw [e]
    exact h
theorem toC_ev (l : List LCn) (hl : l.length ≤ 1000000000) : Ev (fun k => laws_toConnS.f k l) (l.map convC) := by
  unfold laws_toConnS.f
  refine Ev.pos (by omega) (Ev.pos (by omega) ?_)
  have h := toC_loop l (by omega) l.length 0 (by omega) (by omega)
  rw [show ((0 : Nat) : Int) = 0 from rfl] at h
  rw [Int.toNat_natCast]
  exact h
theorem toPlan_ev (n m : Int) (l : List LCn) (hl : l.length ≤ 1000000000) : Ev (fun k => laws_toPlan.f k n m l) (n, m, l.map convC) := by
  unfold laws_toPlan.f
  exact Ev.bnd (toC_ev l hl) (Ev.now _)
theorem szP_eq (n m : Int) (l : List LCn) (hm : l.length ≤ maxLen) : ∃ r, laws_szPlan.f n m l 1048576 = some r ∧ r ≤ 1048576 ∧ (r < 0 ∨ l.length ≤ 1048576) := by
  unfold maxLen at hm
  unfold laws_szPlan.f laws_szConnS.f
  rw [w64 (x := 1048576 - (l.length : Int)) (by omega) (by omega)]
  by_cases h : 1048576 - (l.length : Int) < 0
  · rw [if_pos h, Option.bind_some, if_pos (by omega)]; exact ⟨_, rfl, by omega, .inl (by omega)⟩
  · rw [if_neg h, Option.bind_some, if_neg h]; exact ⟨_, rfl, by omega, .inr (by omega)⟩
theorem eqC_loop (l : List Cn) (hl : l.length ≤ 1000000000000) (d : Nat) : ∀ i : Nat, i ≤ l.length → l.length - i = d → Ev (fun k => laws_eqConnS.l0 k l l (i : Int)) true := by
  induction d with
  | zero => intro i hi hd; exact Ev.step (fun k => laws_eqConnS.l0.eq_2 _ _ _ _) (Ev.neg (by omega) (Ev.now _))
  | succ d ih =>
    intro i hi hd
    refine Ev.step (fun k => laws_eqConnS.l0.eq_2 _ _ _ _) (Ev.pos (by omega) (Ev.pos (by omega) (Ev.pos (by omega) (Ev.bnd0 (a := true) ?_ (Ev.pos rfl ?_)))))
    · unfold laws_eqConn.f; rw [if_pos rfl, if_pos rfl, if_pos rfl, if_pos rfl, if_pos rfl]
    · rw [nxt i (by omega)]; exact ih (i + 1) (by omega) (by omega)
theorem eqPlan_ev (n m : Int) (l : List Cn) (hl : l.length ≤ 1000000000000) : Ev (fun k => laws_eqPlan.f k n m l n m l) true := by
  unfold laws_eqPlan.f laws_eqConnS.f
  exact Ev.pos rfl (Ev.pos rfl (Ev.bnd (Ev.pos rfl (eqC_loop l hl l.length 0 (by omega) (by omega))) (Ev.pos rfl (Ev.now _))))
end Go.Proofs.Ytpjmkghmjpbldaa.M
