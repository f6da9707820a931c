/- A net turned round; two nets compared. -/
import Derived.Test.YtpjmkghmjpbldaaY
import Derived.Test.YtpjmkghmjpbldaaMNet
import Derived.Test.YtpjmkghmjpbldaaPrintF22
import Derived.Test.YtpjmkghmjpbldaaPrintF25
import Derived.Test.YtpjmkghmjpbldaaPrintF26
import Derived.Test.YtpjmkghmjpbldaaPrintF27
import Derived.Test.YtpjmkghmjpbldaaPrintF70
import Derived.Test.YtpjmkghmjpbldaaPrintF71
set_option linter.unusedVariables false
set_option linter.unusedSimpArgs false
namespace Go.Proofs.Ytpjmkghmjpbldaa.M
open Go.RowKit Go.Proofs.Ytpjmkghmjpbldaa.Print Go.Proofs.YtpjmkghmjpbldaaW.PrintWords Go.Proofs.YtpjmkghmjpbldaaW.PrintLast Go.Proofs.YtpjmkghmjpbldaaY
def turnA (a : Ar) : Ar := ⟨a.f1, a.f0, a.f2, a.f3, a.f4⟩
def turnL (l : List Ar) : List Ar := l.map turnA
theorem turnL_len (l : List Ar) : (turnL l).length = l.length := by simp [turnL]
theorem turn2 (l : List Ar) : turnL (turnL l) = l := by simp [turnL, turnA, Function.comp_def]
theorem turnL_at (l : List Ar) (i : Nat) (h : i < l.length) : (turnL l).getD i arz = turnA (l.getD i arz) := by rw [getDA _ _ (by rw [turnL_len]; exact h), getDA _ _ h]; simp [turnL]
theorem turnP {n : Int} {l : List Ar} (h : NetP n l) : NetP n (turnL l) :=
  ⟨h.lo, h.hi, by rw [turnL_len]; exact h.few, fun x hx => by
    obtain ⟨a, ha, rfl⟩ := List.mem_map.1 hx
    obtain ⟨q0, q1, q2, q3, q4, q⟩ := h.arc a ha
    exact ⟨q2, q3, q0, q1, fun e => q4 e.symm, q⟩⟩
theorem takeA (l : List Ar) (i : Nat) (h : i < l.length) : l.take (i + 1) = l.take i ++ [l.getD i arz] := by rw [List.take_add_one, List.getElem?_eq_getElem h, getDA l i h]; rfl
theorem iback_loop (n : Int) (l : List Ar) (hl : l.length ≤ 1000000000) (d : Nat) : ∀ i : Nat, i ≤ l.length → l.length - i = d →
    Ev (fun k => impl_Net_back.l0 k l (l.length : Int) (i : Int) n (turnL (l.take i))) (n, turnL l) := by
  induction d with
  | zero =>
    intro i hi hd
    have e : i = l.length := by omega
    subst e
    exact Ev.step (fun k => impl_Net_back.l0.eq_2 _ _ _ _ _ _) (Ev.neg (by omega) (Ev.now' (by rw [List.take_length])))
  | succ d ih =>
    intro i hi hd
    refine Ev.step (fun k => impl_Net_back.l0.eq_2 _ _ _ _ _ _) (Ev.pos (by omega) (Ev.pos (by omega) (Ev.pos (by omega) (Ev.pos (by rw [turnL_len, List.length_take]; omega) ?_))))
    rw [nxt i (by omega), rdA]
    have e : turnL (l.take i) ++ [(⟨(l.getD i arz).f1, (l.getD i arz).f0, (l.getD i arz).f2, (l.getD i arz).f3, (l.getD i arz).f4⟩ : Ar)] = turnL (l.take (i + 1)) := by
      rw [takeA l i (by omega)]; simp [turnL, turnA]
    rw [e]
    exact ih (i + 1) (by omega) (by omega)
theorem iback_ev (n : Int) (l : List Ar) (hl : l.length ≤ 1000000000) : Ev (fun k => impl_Net_back.f k n l) (n, turnL l) := by
  unfold impl_Net_back.f
  exact Ev.pos (by omega) (Ev.pos (by omega) (iback_loop n l hl l.length 0 (by omega) (by omega)))
theorem sback_loop (n : Int) (l : List Ar) (hl : l.length ≤ 1000000000) (d : Nat) : ∀ i : Nat, i ≤ l.length → l.length - i = d →
    Ev (fun k => spec_l1Back.l0 k (i : Int) n l n (turnL (l.take i))) (n, turnL l) := by
  induction d with
  | zero =>
    intro i hi hd
    have e : i = l.length := by omega
    subst e
    exact Ev.step (fun k => spec_l1Back.l0.eq_2 _ _ _ _ _ _) (Ev.neg (by omega) (Ev.now' (by rw [List.take_length])))
  | succ d ih =>
    intro i hi hd
    refine Ev.step (fun k => spec_l1Back.l0.eq_2 _ _ _ _ _ _) (Ev.pos (by omega) (Ev.pos (by omega) (Ev.pos (by rw [turnL_len, List.length_take]; omega) ?_)))
    rw [nxt i (by omega), rdA]
    have e : turnL (l.take i) ++ [(⟨(l.getD i arz).f1, (l.getD i arz).f0, (l.getD i arz).f2, (l.getD i arz).f3, (l.getD i arz).f4⟩ : Ar)] = turnL (l.take (i + 1)) := by
      rw [takeA l i (by omega)]; simp [turnL, turnA]
    rw [e]
    exact ih (i + 1) (by omega) (by omega)
theorem sback_ev (n : Int) (l : List Ar) (hl : l.length ≤ 1000000000) : Ev (fun k => spec_l1Back.f k n l) (n, turnL l) := by
  unfold spec_l1Back.f
  exact sback_loop n l hl l.length 0 (by omega) (by omega)
/-- What NetBack answers. -/
def backV (n : Int) (l : List Ar) : Int × List Ar := if netOkB n l = true then (n, turnL l) else (0, [])
theorem iNetBack_ev (n : Int) (l : List Ar) (hl : l.length ≤ 1000000000) : Ev (fun k => impl_NetBack.f k n l) (backV n l) := by
  unfold impl_NetBack.f backV
  refine Ev.bnd0 (a := netOkB n l) rfl ?_
  by_cases h : netOkB n l = true
  · rw [if_pos h]; exact Ev.pos h (Ev.bnd (iback_ev n l hl) (Ev.now _))
  · rw [if_neg h]; exact Ev.neg h (Ev.now _)
theorem sNetBack_ev (n : Int) (l : List Ar) (hl : l.length ≤ 1000000000) : Ev (fun k => spec_NetBack.f k n l) (backV n l) := by
  unfold spec_NetBack.f backV
  refine Ev.bnd (sok1_ev n l (by omega)) ?_
  by_cases h : netOkB n l = true
  · rw [if_pos h]; exact Ev.pos h (Ev.bnd (sback_ev n l hl) (Ev.now _))
  · rw [if_neg h]; exact Ev.neg h (Ev.now _)
theorem wkNet_loop (n m : Int) (l : List Ar) (hl : l.length ≤ 1000000000) (d : Nat) : ∀ i : Nat, i ≤ l.length → l.length - i = d → Ev (fun k => laws_wkNet.l0 k (i : Int) n l m l) true := by
  induction d with
  | zero =>
    intro i hi hd
    exact Ev.step (fun k => laws_wkNet.l0.eq_2 _ _ _ _ _ _) (Ev.neg (by omega) (Ev.now _))
  | succ d ih =>
    intro i hi hd
    refine Ev.step (fun k => laws_wkNet.l0.eq_2 _ _ _ _ _ _) (Ev.pos (by omega) (Ev.pos (by omega) (Ev.pos (by omega) (Ev.neg (by simp) ?_))))
    rw [nxt i (by omega)]
    exact ih (i + 1) (by omega) (by omega)
theorem wkNet_ev (n : Int) (l : List Ar) (hl : l.length ≤ 1000000000) : Ev (fun k => laws_wkNet.f k n l n l) true := by
  unfold laws_wkNet.f
  refine Ev.pos rfl (Ev.step (fun k => laws_wkNet.j0.eq_2 _ _ _ _ _ _) (Ev.neg (by simp) ?_))
  exact wkNet_loop n n l hl l.length 0 (by omega) (by omega)
end Go.Proofs.Ytpjmkghmjpbldaa.M
