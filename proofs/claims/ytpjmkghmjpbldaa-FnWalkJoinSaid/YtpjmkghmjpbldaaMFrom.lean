/- The arcs that begin at a node, up to the i-th. -/
import Derived.Test.YtpjmkghmjpbldaaY
import Derived.Test.YtpjmkghmjpbldaaMNet

set_option linter.unusedVariables false
set_option linter.unusedSimpArgs false
namespace Go.Proofs.Ytpjmkghmjpbldaa.M
open Go.RowKit Go.Proofs.Ytpjmkghmjpbldaa.Print Go.Proofs.YtpjmkghmjpbldaaW.PrintWords Go.Proofs.YtpjmkghmjpbldaaW.PrintLast Go.Proofs.YtpjmkghmjpbldaaY
/-- The arcs before the i-th that begin at v. -/
def outU (l : List Ar) (v : Int) : Nat → List Int
  | 0 => []
  | i + 1 => if (l.getD i arz).f0 = v then outU l v i ++ [(i : Int)] else outU l v i
theorem outU_len (l : List Ar) (v : Int) : ∀ i, (outU l v i).length ≤ i
  | 0 => by simp [outU]
  | i + 1 => by
    have := outU_len l v i
    simp only [outU]
    split
    · simp; omega
    · omega
theorem outU_mem (l : List Ar) (v : Int) : ∀ i, ∀ x ∈ outU l v i, 0 ≤ x ∧ x < (i : Int) ∧ (l.getD x.toNat arz).f0 = v
  | 0 => by intro x hx; cases hx
  | i + 1 => by
    intro x hx
    have ih := outU_mem l v i x
    simp only [outU] at hx
    split at hx
    · rename_i h
      rcases List.mem_append.1 hx with hx | hx
      · obtain ⟨a, b, c⟩ := ih hx
        exact ⟨a, by omega, c⟩
      · obtain rfl := List.mem_singleton.1 hx
        exact ⟨by omega, by omega, by rw [Int.toNat_natCast]; exact h⟩
    · obtain ⟨a, b, c⟩ := ih hx
      exact ⟨a, by omega, c⟩
theorem getD_l (a b : List Int) (j : Nat) (h : j < a.length) : (a ++ b).getD j 0 = a.getD j 0 := by rw [List.getD_eq_getElem?_getD, List.getElem?_append_left h, ← List.getD_eq_getElem?_getD]
theorem getD_r (a b : List Int) (j : Nat) (h : a.length ≤ j) : (a ++ b).getD j 0 = b.getD (j - a.length) 0 := by rw [List.getD_eq_getElem?_getD, List.getElem?_append_right h, ← List.getD_eq_getElem?_getD]
theorem outU_up (l : List Ar) (v : Int) : ∀ i j, j + 1 < (outU l v i).length → (outU l v i).getD j 0 < (outU l v i).getD (j + 1) 0
  | 0 => by intro j h; simp [outU] at h
  | i + 1 => by
    intro j h
    have ih := outU_up l v i j
    simp only [outU] at h ⊢
    split at h
    · rename_i hv
      rw [if_pos hv]
      rw [List.length_append, List.length_singleton] at h
      by_cases hj : j + 1 < (outU l v i).length
      · rw [getD_l _ _ _ (by omega), getD_l _ _ _ hj]
        exact ih hj
      · have e : j + 1 = (outU l v i).length := by omega
        rw [getD_l _ _ _ (by omega), getD_r _ _ _ (by omega), show j + 1 - (outU l v i).length = 0 by omega]
        have h1 : (outU l v i).getD j 0 ∈ outU l v i := by rw [getDI _ _ (by omega)]; exact List.getElem_mem _
        exact (outU_mem l v i _ h1).2.1
    · rename_i hv
      rw [if_neg hv]
      exact ih h
end Go.Proofs.Ytpjmkghmjpbldaa.M
