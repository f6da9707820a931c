/- The arcs that begin at a node; each arc begins at one. -/
import Derived.Test.YtpjmkghmjpbldaaY
import Derived.Test.YtpjmkghmjpbldaaMNet
import Derived.Test.YtpjmkghmjpbldaaMFrom
import Derived.Test.YtpjmkghmjpbldaaMWk
import Derived.Test.YtpjmkghmjpbldaaPrintF22
import Derived.Test.YtpjmkghmjpbldaaPrintF29
import Derived.Test.YtpjmkghmjpbldaaPrintF31
set_option linter.unusedVariables false
set_option linter.unusedSimpArgs false
namespace Go.Proofs.Ytpjmkghmjpbldaa.M
open Go.RowKit Go.Proofs.Ytpjmkghmjpbldaa.Print Go.Proofs.YtpjmkghmjpbldaaW.PrintWords Go.Proofs.YtpjmkghmjpbldaaW.PrintLast Go.Proofs.YtpjmkghmjpbldaaY
theorem iout_loop (l : List Ar) (v : Int) (hl : l.length ≤ 1000000000) (d : Nat) : ∀ i : Nat, i ≤ l.length → l.length - i = d →
    Ev (fun k => impl_NetOut.l0 k v (outU l v i) l (l.length : Int) (i : Int)) (outU l v l.length) := by
  induction d with
  | zero =>
    intro i hi hd
    have e : i = l.length := by omega
    subst e
    exact Ev.step (fun k => impl_NetOut.l0.eq_2 _ _ _ _ _ _) (Ev.neg (by omega) (Ev.now _))
  | succ d ih =>
    intro i hi hd
    have hlen := outU_len l v i
    refine Ev.step (fun k => impl_NetOut.l0.eq_2 _ _ _ _ _ _) (Ev.pos (by omega) (Ev.pos (by omega) (Ev.pos (by omega) ?_)))
    rw [nxt i (by omega), rdA]
    have h := ih (i + 1) (by omega) (by omega)
    by_cases c : (l.getD i arz).f0 = v
    · refine Ev.pos c (Ev.pos (by omega) ?_)
      simp only [outU, if_pos c] at h
      exact h
    · refine Ev.neg c ?_
      simp only [outU, if_neg c] at h
      exact h
/-- What NetOut answers. -/
def outV (n : Int) (l : List Ar) (v : Int) : List Int := if netOkB n l = true then outU l v l.length else []
theorem iNetOut_ev (n : Int) (l : List Ar) (v : Int) (hl : l.length ≤ 1000000000) : Ev (fun k => impl_NetOut.f k n l v) (outV n l v) := by
  unfold impl_NetOut.f outV
  refine Ev.bnd0 (a := netOkB n l) rfl ?_
  by_cases h : netOkB n l = true
  · rw [if_pos h]; exact Ev.pos h (Ev.pos (by omega) (Ev.pos (by omega) (iout_loop l v hl l.length 0 (by omega) (by omega))))
  · rw [if_neg h]; exact Ev.neg h (Ev.now _)
theorem sout_loop (n : Int) (l : List Ar) (v : Int) (hl : l.length ≤ 1000000000) (hk : netOkB n l = true) (d : Nat) : ∀ i : Nat, i ≤ l.length → l.length - i = d →
    Ev (fun k => spec_NetOut.l0 k v (outU l v i) (i : Int) n l) (outU l v l.length) := by
  induction d with
  | zero =>
    intro i hi hd
    have e : i = l.length := by omega
    subst e
    exact Ev.step (fun k => spec_NetOut.l0.eq_2 _ _ _ _ _ _) (Ev.neg (by omega) (Ev.step (fun k => spec_NetOut.j1.eq_2 _ _ _ _ _ _ _) (Ev.neg (by simp) (Ev.now _))))
  | succ d ih =>
    intro i hi hd
    have hlen := outU_len l v i
    refine Ev.step (fun k => spec_NetOut.l0.eq_2 _ _ _ _ _ _) (Ev.pos (by omega) (Ev.bnd (sok1_ev n l (by omega)) ?_))
    refine Ev.step (fun k => spec_NetOut.j1.eq_2 _ _ _ _ _ _ _) (Ev.pos hk (Ev.pos (by omega) (Ev.pos (by omega) ?_)))
    rw [nxt i (by omega), rdA]
    have h := ih (i + 1) (by omega) (by omega)
    by_cases c : (l.getD i arz).f0 = v
    · refine Ev.pos c (Ev.pos (by omega) ?_)
      simp only [outU, if_pos c] at h
      exact h
    · refine Ev.neg c ?_
      simp only [outU, if_neg c] at h
      exact h
theorem sNetOut_ev (n : Int) (l : List Ar) (v : Int) (hl : l.length ≤ 1000000000) : Ev (fun k => spec_NetOut.f k n l v) (outV n l v) := by
  unfold spec_NetOut.f outV
  by_cases h : netOkB n l = true
  · rw [if_pos h]; exact sout_loop n l v hl h l.length 0 (by omega) (by omega)
  · rw [if_neg h]
    refine Ev.step (fun k => spec_NetOut.l0.eq_2 _ _ _ _ _ _) ?_
    by_cases c : (0 : Int) < (l.length : Int)
    · exact Ev.pos c (Ev.bnd (sok1_ev n l (by omega)) (Ev.step (fun k => spec_NetOut.j1.eq_2 _ _ _ _ _ _ _) (Ev.neg h (Ev.now _))))
    · exact Ev.neg c (Ev.step (fun k => spec_NetOut.j1.eq_2 _ _ _ _ _ _ _) (Ev.neg (by simp) (Ev.now _)))
/-- So many arcs before the i-th begin at one of the first nodes. -/
def cnt (l : List Ar) (i : Nat) : Nat → Nat
  | 0 => 0
  | v + 1 => cnt l i v + (outU l (v : Int) i).length
theorem cnt_step (l : List Ar) (i : Nat) : ∀ v : Nat, cnt l (i + 1) v = cnt l i v + (if 0 ≤ (l.getD i arz).f0 ∧ (l.getD i arz).f0 < (v : Int) then 1 else 0)
  | 0 => by
    rw [if_neg (by omega)]
    rfl
  | v + 1 => by
    have ih := cnt_step l i v
    simp only [cnt, outU, ih]
    by_cases h : (l.getD i arz).f0 = (v : Int)
    · rw [if_pos h, if_neg (by omega), if_pos (by omega), List.length_append, List.length_singleton]; omega
    · rw [if_neg h]
      by_cases h2 : 0 ≤ (l.getD i arz).f0 ∧ (l.getD i arz).f0 < (v : Int)
      · rw [if_pos h2, if_pos (by omega)]; omega
      · rw [if_neg h2, if_neg (by omega)]; omega
theorem cnt_zero (l : List Ar) : ∀ v : Nat, cnt l 0 v = 0
  | 0 => rfl
  | v + 1 => by simp [cnt, outU, cnt_zero l v]
theorem cnt_all (l : List Ar) (n : Nat) (h : ∀ a ∈ l, 0 ≤ a.f0 ∧ a.f0 < (n : Int)) : ∀ i, i ≤ l.length → cnt l i n = i
  | 0, _ => cnt_zero l n
  | i + 1, hi => by
    have hm : l.getD i arz ∈ l := by rw [getDA l i (by omega)]; exact List.getElem_mem _
    rw [cnt_step, cnt_all l n h i (by omega), if_pos (h _ hm)]
theorem cnt_le (l : List Ar) (i : Nat) : ∀ v : Nat, cnt l i v ≤ v * i
  | 0 => by simp [cnt]
  | v + 1 => by
    have := cnt_le l i v
    have h2 := outU_len l (v : Int) i
    simp only [cnt, Nat.succ_mul]
    omega
end Go.Proofs.Ytpjmkghmjpbldaa.M
