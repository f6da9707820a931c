/- The arcs that begin at a node, up to the i-th. -/
import Derived.Test.YtcfmejfmjjgoaaaY
import Derived.Test.YtcfmejfmjjgoaaaMNet

set_option linter.unusedVariables false
set_option linter.unusedSimpArgs false
namespace Go.Proofs.Ytcfmejfmjjgoaaa.M
open Go.RowKit Go.Proofs.Ytcfmejfmjjgoaaa.Print Go.Proofs.YtcfmejfmjjgoaaaW.PrintWords Go.Proofs.YtcfmejfmjjgoaaaW.PrintLast Go.Proofs.YtcfmejfmjjgoaaaY
/-- The arcs before the i-th that begin at v. -/
def outU (l : List Ar) (v : Int) : Nat → List Int
  | 0 => []
  | i + 1 => if (l.getD i arz).f0 = v then outU l v i ++ [(i : Int)] else outU l v i
theorem outU_len (l : List Ar) (v : Int) : ∀ i, (outU l v i).length ≤ i
  | 0 => by simp [outU]
  | i + 1 => by
    have := outU_len l v i
    simp only [outU]
    split
    · simp; omega
    · omega
theorem outU_mem (l : List Ar) (v : Int) : ∀ i, ∀ x ∈ outU l v i, 0 ≤ x ∧ x < (i : Int) ∧ (l.getD x.toNat arz).f0 = v
  | 0 => by intro x hx; cases hx
  | i + 1 => by
    intro x hx
    have ih := outU_mem l v i x
    simp only [outU] at hx
    split at hx
    · rename_i h
      rcases List.mem_append.1 hx with hx | hx
      · obtain ⟨a, b, c⟩ := ih hx
        exact ⟨a, by omega, c⟩
      · obtain rfl := List.mem_singleton.1 hx
        exact ⟨by omega, by omega, by rw [Int.toNat_natCast]; exact h⟩
    · obtain ⟨a, b, c⟩ := ih hx
      exact ⟨a, by omega, c⟩
end Go.Proofs.Ytcfmejfmjjgoaaa.M
